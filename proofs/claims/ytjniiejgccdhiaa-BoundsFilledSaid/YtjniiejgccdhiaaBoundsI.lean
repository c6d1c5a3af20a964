/- Package bounds: Close gives what its reference gives, second part. No condition. -/
import Derived.Test.YtjniiejgccdhiaaBoundsH
namespace Go.Proofs.Ytjniiejgccdhiaa
open Go.Sim

theorem passT_none {j : Nat} {T R : Nat → Int} (h : ¬ R j < INF) : ∀ n, passT j T R n = R := by
  intro n
  induction n with
  | zero => rfl
  | succ n ih => rw [passT_succ, ih]; unfold stepT; rw [if_neg (fun h2 => h h2.1)]
theorem cpy_row {m : Nat} (R : Nat → Int) (z : List Int) (h : z.length = m) : cpy z (rowL m R) = rowL m R := by
  unfold cpy
  rw [List.take_of_length_le (by rw [rowL_len]; omega), List.drop_of_length_le (by rw [rowL_len]; omega), List.append_nil]

def part (ph : Nat → Nat → Int) (G : Nat → Nat → Int) (i : Nat) : Nat → Nat → Int := fun p => if p < i then ph p else G p
theorem part_self {ph G : Nat → Nat → Int} {i : Nat} : part ph G i i = G i := if_neg (Nat.lt_irrefl _)
theorem part_lt {ph G : Nat → Nat → Int} {i p : Nat} (h : p < i) : part ph G i p = ph p := if_pos h
theorem part_ge {ph G : Nat → Nat → Int} {i p : Nat} (h : i ≤ p) : part ph G i p = G p := if_neg (by omega)
theorem part_zero {ph G : Nat → Nat → Int} : part ph G 0 = G := rfl
theorem part_succ {m : Nat} {ph G : Nat → Nat → Int} {i : Nat} {R : Nat → Int} (h : ∀ k, k < m → R k = ph i k) : tab m (upd1 (part ph G i) i R) = tab m (part ph G (i + 1)) := by
  refine tab_congr fun p k _ hk => ?_
  unfold upd1
  by_cases hp : p = i
  · subst hp; rw [if_pos rfl, part_lt (by omega)]; exact h k hk
  · rw [if_neg hp]
    by_cases h2 : p < i
    · rw [part_lt h2, part_lt (by omega)]
    · rw [part_ge (by omega), part_ge (by omega)]
theorem part_full {m : Nat} {ph G : Nat → Nat → Int} : tab m (part ph G m) = tab m ph := tab_congr fun p k hp _ => by rw [part_lt hp]

def negB (m : Nat) (G : Nat → Nat → Int) : Bool := (List.range m).any fun i => decide (G i i < 0)
theorem negB_false {m : Nat} {G : Nat → Nat → Int} : negB m G = false ↔ ∀ i, i < m → 0 ≤ G i i := by
  unfold negB
  rw [List.any_eq_false]
  constructor
  · intro h i hi
    have := h i (by simpa using hi)
    simpa using this
  · intro h i hi
    have := h i (by simpa using hi)
    simpa using this
theorem negB_true {m : Nat} {G : Nat → Nat → Int} {i : Nat} (hi : i < m) (h : decide (G i i < 0) = true) : negB m G = true := List.any_eq_true.2 ⟨i, by simpa using hi, h⟩

theorem wsum {x y : Int} (h1 : -4611686018427387904 ≤ x ∧ x ≤ 4611686018427387903) (h2 : -4611686018427387904 ≤ y ∧ y ≤ 4611686018427387903) : IntKind.i64.wrap (x + y) = x + y := w64 (by omega) (by omega)

theorem closed_is {m : Nat} {l : List SDiff} (hv : Valid m l) : fclosed ((m : Int) - 1) (l.map (edS m)) = some (if negB m (tP m l) = true then ([], false) else (tab m (tP m l), true)) := by
  have m1 := hv.m1
  have m11 := hv.m11
  unfold fclosed
  rw [m_wrap m11, mk_nat _ _ (by omega), repeat_is m1 m11]
  simp only [Option.bind_some]
  refine for_bind m (fun i => ((i : Int), half m i)) (half m m) (by rw [half_zero]; rfl) ?_ ?_ ?_
  · intro i hi
    simp only
    rw [if_pos (by simpa using hi)]
    have e1 : setAt (half m i) (i : Int) (rowL m fun _ => INF) = some (rowL m (upd1 (fun p => if p < i then rowL m (T0 p) else []) i (rowL m fun _ => INF))) := by unfold half; exact rowL_set hi _
    rw [e1]
    simp only [Option.bind_some]
    rw [rowL_idx hi, upd1_same]
    simp only [Option.bind_some]
    rw [rowL_set hi]
    simp only [Option.bind_some]
    rw [rowL_set hi, upd1_upd1]
    simp only [Option.bind_some]
    have e2 : rowL m (upd1 (fun _ => INF) i 0) = rowL m (T0 i) := rowL_congr fun k _ => by
      unfold upd1 T0
      by_cases h : k = i
      · rw [if_pos h, if_pos h.symm]
      · rw [if_neg h, if_neg (fun h2 => h h2.symm)]
    rw [e2, half_set, w64_succ (n := m) hi (by omega)]
  · simp only
    rw [if_neg (by simp)]
  · rw [half_full]
    refine for_bind l.length (fun t => ((t : Int), tab m (edsT ((l.map (edN m)).take t)))) (tab m (edsT (l.map (edN m)))) rfl ?_ ?_ ?_
    · intro t ht
      have htl : t < (l.map (edN m)).length := by simpa using ht
      have hts : t < (l.map (edS m)).length := by simpa using ht
      simp only
      rw [if_pos (by simpa using ht), idx_lt hts]
      simp only [Option.bind_some, List.getElem_map]
      obtain ⟨a1, a2, a3, a4, _⟩ := hv.ok _ (List.getElem_mem ht)
      have ra := rowN_lt a1 a2
      have rb := rowN_lt a3 a4
      rw [show (edS m l[t]).a = ((rowN m l[t].A : Nat) : Int) from rfl, show (edS m l[t]).b = ((rowN m l[t].B : Nat) : Int) from rfl, tab_idx ra]
      simp only [Option.bind_some]
      rw [rowL_idx rb]
      simp only [Option.bind_some]
      rw [rowL_set rb]
      simp only [Option.bind_some]
      rw [tab_set ra]
      simp only [Option.bind_some]
      rw [w64_succ (n := l.length) ht (by have := hv.len; omega), List.take_succ_eq_append_getElem htl, edsT_snoc]
      simp only [List.getElem_map]
      rfl
    · simp only
      rw [if_neg (by simp), List.take_of_length_le (by simp)]
    · have hg := fun n hn => iters_grid (phP_ok (l.map (edN m)) m) (eds_ok hv).1 m11 n hn
      refine for_bind m (fun j => ((j : Int), tab m (iters (fun j G => phP m j G) (edsT (l.map (edN m))) j))) (tab m (tP m l)) rfl ?_ ?_ ?_
      · intro j hj
        have hgj := hg j (by omega)
        have hb := pow_bound j (by omega)
        rw [iters_succ]
        generalize iters (fun j G => phP m j G) (edsT (l.map (edN m))) j = G at hgj ⊢
        simp only
        rw [if_pos (by rw [tab_len]; simpa using hj), mk_nat _ _ (by omega), tab_idx hj]
        simp only [Option.bind_some]
        rw [cpy_row (G j) _ (by simp)]
        refine for_bind m (fun i => ((i : Int), tab m (part (phP m j G) G i))) (tab m (phP m j G)) rfl ?_ ?_ ?_
        · intro i hi
          simp only
          rw [if_pos (by rw [tab_len]; simpa using hi), tab_idx hi, part_self]
          simp only [Option.bind_some]
          rw [rowL_idx hj]
          simp only [Option.bind_some]
          by_cases hc : G i j < INF
          · rw [if_neg (by simpa using hc)]
            have key : ((tailrec (fun (s377 : Int × List (List Int)) => ((if (decide (s377.1 < ((rowL m (G j)).length : Int))) = true then (idx (rowL m (G j)) s377.1).bind fun t97 => ((if (decide (t97 < (1099511627776:Int))) = true then (idx s377.2 (i : Int)).bind fun r403 => (idx r403 s377.1).bind fun t108 => (idx r403 (j : Int)).bind fun t112 => (setAt r403 s377.1 (imin t108 (IntKind.i64.wrap (t112 + t97)))).bind fun t117s => (setAt s377.2 (i : Int) t117s).bind fun m404 => (some m404) else (some s377.2))).bind fun (p399 : List (List Int)) => (some (.inl ((IntKind.i64.wrap (s377.1 + (1:Int))), p399))) else (some (.inr s377.2))) : Option ((Int × List (List Int)) ⊕ ((List (List Int)))))) ((0:Int), tab m (part (phP m j G) G i))).bind fun (p392 : (List (List Int))) => (some p392)) = some (tab m (part (phP m j G) G (i + 1))) := by
              refine for_bind m (fun k => ((k : Int), tab m (upd1 (part (phP m j G) G i) i (passT j (G j) (G i) k)))) (tab m (part (phP m j G) G (i + 1))) ?_ ?_ ?_ rfl
              · have : upd1 (part (phP m j G) G i) i (passT j (G j) (G i) 0) = part (phP m j G) G i := by
                  have e : passT j (G j) (G i) 0 = part (phP m j G) G i i := by rw [part_self]; rfl
                  rw [e, upd1_self]
                simp only [this]; rfl
              · intro k hk
                obtain ⟨i1, i2, i3, i4, i5⟩ := passT_ok hj (hgj.row i hi) (hgj.row j hj) hb.1 hb.1 hb.2.2.1 k (by omega)
                simp only
                rw [if_pos (by rw [rowL_len]; simpa using hk), rowL_idx hk]
                simp only [Option.bind_some]
                have e1 : (if decide (G j k < 1099511627776) = true then (idx (tab m (upd1 (part (phP m j G) G i) i (passT j (G j) (G i) k))) (i : Int)).bind fun r403 => (idx r403 (k : Int)).bind fun t108 => (idx r403 (j : Int)).bind fun t112 => (setAt r403 (k : Int) (imin t108 (IntKind.i64.wrap (t112 + G j k)))).bind fun t117s => (setAt (tab m (upd1 (part (phP m j G) G i) i (passT j (G j) (G i) k))) (i : Int) t117s).bind fun m404 => some m404 else some (tab m (upd1 (part (phP m j G) G i) i (passT j (G j) (G i) k)))) = some (tab m (upd1 (part (phP m j G) G i) i (passT j (G j) (G i) (k + 1)))) := by
                  rw [passT_succ]
                  generalize hP : passT j (G j) (G i) k = P at i1 i2 i3 i5
                  have hPj : P j < INF := by have := i2 j hj; omega
                  unfold stepT
                  by_cases h : G j k < INF
                  · rw [if_pos (by simpa using h), if_pos ⟨hPj, h⟩, tab_idx hi, upd1_same]
                    simp only [Option.bind_some]
                    rw [rowL_idx hk, rowL_idx hj]
                    simp only [Option.bind_some]
                    have l3 := (hgj.row j hj).lo k hk
                    have u0 : INF = 1099511627776 := rfl
                    rw [wsum ⟨by omega, by omega⟩ ⟨by omega, by omega⟩, rowL_set hk]
                    simp only [Option.bind_some]
                    rw [tab_set hi, upd1_upd1]
                    rfl
                  · rw [if_neg (by simpa using h), if_neg (fun h2 => h h2.2)]
                rw [e1]
                simp only [Option.bind_some]
                rw [w64_succ (n := m) hk (by omega)]
              · simp only
                rw [if_neg (by rw [rowL_len]; simp)]
                congr 2
                exact part_succ fun k _ => rfl
            refine Eq.trans (congrArg (fun z => Option.bind z _) key) ?_
            simp only [Option.bind_some]
            rw [w64_succ (n := m) hi (by omega)]
          · rw [if_pos (by simpa using hc)]
            simp only [Option.bind_some]
            rw [w64_succ (n := m) hi (by omega)]
            have e : tab m (part (phP m j G) G (i + 1)) = tab m (part (phP m j G) G i) := by
              rw [← part_succ (R := G i) (fun k _ => by show G i k = passT j (G j) (G i) m k; rw [passT_none hc])]
              have : upd1 (part (phP m j G) G i) i (G i) = part (phP m j G) G i := by
                have e : G i = part (phP m j G) G i i := part_self.symm
                conv => lhs; rw [e]
                exact upd1_self
              rw [this]
            rw [e]
        · simp only
          rw [if_neg (by rw [tab_len]; simp), part_full]
        · rw [w64_succ (n := m) hj (by omega)]
      · simp only
        rw [if_neg (by rw [tab_len]; simp)]
        rfl
      · refine scan_bind m (fun i => decide (tP m l i i < 0)) (.inl ()) (fun _ => .inr ([], false)) ?_ ?_ ?_ ?_ ?_
        · intro i hi hp
          rw [if_pos (by rw [tab_len]; simpa using hi), tab_idx hi]
          simp only [Option.bind_some]
          rw [rowL_idx hi]
          simp only [Option.bind_some]
          rw [hp, if_neg (by simp), w64_succ (n := m) hi (by omega)]
        · intro i hi hp
          rw [if_pos (by rw [tab_len]; simpa using hi), tab_idx hi]
          simp only [Option.bind_some]
          rw [rowL_idx hi]
          simp only [Option.bind_some]
          rw [hp, if_pos rfl]
        · rw [if_neg (by rw [tab_len]; simp)]
        · intro hno
          have : negB m (tP m l) = false := negB_false.2 fun i hi => by simpa using hno i hi
          simp only [this]
          rfl
        · intro i hi hp
          rw [negB_true hi hp]; rfl

end Go.Proofs.Ytjniiejgccdhiaa
