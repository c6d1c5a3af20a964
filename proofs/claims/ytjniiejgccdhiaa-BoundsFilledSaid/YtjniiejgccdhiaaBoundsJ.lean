/- Package bounds: Close gives what its reference gives, third part. No condition. -/
import Derived.Test.YtjniiejgccdhiaaBoundsI
namespace Go.Proofs.Ytjniiejgccdhiaa
open Go.Sim

/-- The body of the reference's innermost loop. -/
def refBody (n i j : Int) (s : Int × List (List Int)) : Option ((Int × List (List Int)) ⊕ ((List (List Int)))) :=
  (if (decide (s.1 ≤ n)) = true then (idx s.2 i).bind fun r208 => (idx r208 j).bind fun t41 => (opt ((decide (t41 < (1099511627776:Int))) == true) (idx s.2 j) default).bind fun r209 => (opt ((decide (t41 < (1099511627776:Int))) == true) (idx r209 s.1) default).bind fun t50 =>
    ((if ((decide (t41 < (1099511627776:Int))) && (decide (t50 < (1099511627776:Int)))) = true then (idx s.2 i).bind fun r215 => (idx r215 s.1).bind fun t64 => (idx r215 j).bind fun t71 => (idx s.2 j).bind fun r216 => (idx r216 s.1).bind fun t78 => (setAt r215 s.1 (imin t64 (IntKind.i64.wrap (t71 + t78)))).bind fun t82s => (setAt s.2 i t82s).bind fun m217 => (some m217) else (some s.2))).bind fun (p210 : List (List Int)) => (some (.inl ((IntKind.i64.wrap (s.1 + (1:Int))), p210))) else (some (.inr s.2)))

theorem refBody_step {m i j k : Nat} {H : Nat → Nat → Int} (hm : m ≤ 11) (hi : i < m) (hj : j < m) (hk : k < m) (hR : H i j < INF → H j k < INF → (-4611686018427387904 ≤ H i j ∧ -4611686018427387904 ≤ H j k)) :
    refBody ((m : Int) - 1) (i : Int) (j : Int) ((k : Int), tab m H) = some (.inl (((k + 1 : Nat) : Int), tab m (if H i j < INF ∧ H j k < INF then upd1 H i (upd1 (H i) k (imin (H i k) (H i j + H j k))) else H))) := by
  have u0 : INF = 1099511627776 := rfl
  unfold refBody
  simp only
  rw [if_pos (by simp only [decide_eq_true_eq]; omega), tab_idx hi, tab_idx hj]
  simp only [Option.bind_some]
  rw [rowL_idx hj]
  simp only [Option.bind_some]
  by_cases h1 : H i j < INF
  · have e1 : (decide (H i j < (1099511627776:Int)) == true) = true := by simpa using h1
    rw [e1]
    simp only [opt_true, Option.bind_some]
    rw [rowL_idx hk]
    simp only [Option.bind_some]
    by_cases h2 : H j k < INF
    · obtain ⟨b1, b2⟩ := hR h1 h2
      rw [if_pos (by simp; omega), if_pos ⟨h1, h2⟩, rowL_idx hk]
      simp only [Option.bind_some]
      rw [wsum ⟨by omega, by omega⟩ ⟨by omega, by omega⟩, rowL_set hk]
      simp only [Option.bind_some]
      rw [tab_set hi]
      simp only [Option.bind_some]
      rw [w64_succ (n := m) hk (by omega)]
    · rw [if_neg (by simp; omega), if_neg (fun h => h2 h.2)]
      simp only [Option.bind_some]
      rw [w64_succ (n := m) hk (by omega)]
  · have e1 : (decide (H i j < (1099511627776:Int)) == true) = false := by simp; omega
    rw [e1]
    simp only [opt_false, Option.bind_some]
    rw [if_neg (by simp; omega), if_neg (fun h => h1 h.1)]
    simp only [Option.bind_some]
    rw [w64_succ (n := m) hk (by omega)]
theorem refBody_end {m i j : Nat} {H : Nat → Nat → Int} : refBody ((m : Int) - 1) (i : Int) (j : Int) ((m : Int), tab m H) = some (.inr (tab m H)) := by
  unfold refBody
  simp only
  rw [if_neg (by simp only [decide_eq_true_eq]; omega)]

/-- A row's pass, where another row stays. -/
theorem ref_other {E : List Ed} {m i j : Nat} {H : Nat → Nat → Int} {b t U : Int} (hm : m ≤ 11) (hi : i < m) (hj : j < m) (hij : i ≠ j) (hR : RowOk E m b U i (H i)) (hT : RowOk E m t U j (H j)) (hb : 0 ≤ b) (ht : 0 ≤ t) (hU : 0 ≤ U) (hbt : b + t + t ≤ 4611686018427387904) :
    tailrec (refBody ((m : Int) - 1) (i : Int) (j : Int)) ((0:Int), tab m H) = some (tab m (upd1 H i (passT j (H j) (H i) m))) := by
  have h0 : ((0:Int), tab m H) = (fun k : Nat => ((k : Int), tab m (upd1 H i (passT j (H j) (H i) k)))) 0 := by
    have : upd1 H i (passT j (H j) (H i) 0) = H := upd1_self
    simp only [this]; rfl
  rw [h0]
  refine tailrec_for m (fun k : Nat => ((k : Int), tab m (upd1 H i (passT j (H j) (H i) k)))) _ ?_ ?_
  · intro k hk
    obtain ⟨i1, i2, i3, i4, i5⟩ := passT_ok hj hR hT hb ht hU k (by omega)
    have ej : upd1 H i (passT j (H j) (H i) k) j = H j := upd1_ne (Ne.symm hij)
    have ei : upd1 H i (passT j (H j) (H i) k) i = passT j (H j) (H i) k := upd1_same
    rw [refBody_step hm hi hj hk (by
      intro _ _
      rw [ei, ej]
      have := hT.lo k hk
      exact ⟨by omega, by omega⟩)]
    rw [ei, ej, upd1_upd1, passT_succ]
    unfold stepT
    split <;> rfl
  · exact refBody_end
/-- The row's own pass. -/
theorem ref_self {E : List Ed} {m j : Nat} {H : Nat → Nat → Int} {b U : Int} (hm : m ≤ 11) (hj : j < m) (hR : RowOk E m b U j (H j)) (hd : H j j ≤ 0) (hb : 0 ≤ b) (hU : 0 ≤ U) (hbt : b + b + b ≤ 4611686018427387904) :
    tailrec (refBody ((m : Int) - 1) (j : Int) (j : Int)) ((0:Int), tab m H) = some (tab m (upd1 H j (passS j (H j) m))) := by
  have h0 : ((0:Int), tab m H) = (fun k : Nat => ((k : Int), tab m (upd1 H j (passS j (H j) k)))) 0 := by
    have : upd1 H j (passS j (H j) 0) = H := upd1_self
    simp only [this]; rfl
  rw [h0]
  refine tailrec_for m (fun k : Nat => ((k : Int), tab m (upd1 H j (passS j (H j) k)))) _ ?_ ?_
  · intro k hk
    obtain ⟨i1, i2, i3, i4, i5, i6⟩ := passS_ok hj hR hd hb hU k (by omega)
    have ei : upd1 H j (passS j (H j) k) j = passS j (H j) k := upd1_same
    rw [refBody_step hm hj hj hk (by
      intro _ _
      rw [ei]
      have := i1.lo k hk
      exact ⟨by omega, by omega⟩)]
    rw [ei, upd1_upd1, passS_succ]
    unfold stepS
    split <;> rfl
  · exact refBody_end

theorem closeR_tab {m : Nat} {l : List SDiff} (hv : Valid m l) (hs : validS ((m : Int) - 1) l = 0) : fCloseR ((m : Int) - 1) l = some (if negB m (tR m l) = true then ([], 14) else (tab m (tR m l), 0)) := by
  have m1 := hv.m1
  have m11 := hv.m11
  unfold fCloseR
  rw [validR14_is, hs]
  simp only [Option.bind_some]
  rw [if_neg (by simp), table_is hv]
  simp only [Option.bind_some]
  have hg := fun n hn => iters_grid (phR_ok (l.map (edN m)) m) (eds_ok hv).1 m11 n hn
  refine for_bind m (fun j => ((j : Int), tab m (iters (fun j G => phR m j G) (edsT (l.map (edN m))) j))) (tab m (tR m l)) rfl ?_ ?_ ?_
  · intro j hj
    have hgj := hg j (by omega)
    have hb := pow_bound j (by omega)
    rw [iters_succ]
    generalize iters (fun j G => phR m j G) (edsT (l.map (edN m))) j = G at hgj ⊢
    obtain ⟨s1, _⟩ := passS_ok hj (hgj.row j hj) (hgj.diag j hj) hb.1 hb.2.2.1 m (Nat.le_refl _)
    simp only
    rw [if_pos (by simp only [decide_eq_true_eq]; omega)]
    refine for_bind m (fun i => ((i : Int), tab m (part (phR m j G) G i))) (tab m (phR m j G)) rfl ?_ ?_ ?_
    · intro i hi
      simp only
      rw [if_pos (by simp only [decide_eq_true_eq]; omega)]
      have key : (tailrec (refBody ((m : Int) - 1) (i : Int) (j : Int)) ((0:Int), tab m (part (phR m j G) G i))) = some (tab m (part (phR m j G) G (i + 1))) := by
        rcases Nat.lt_trichotomy i j with h | h | h
        · have ej : part (phR m j G) G i j = G j := part_ge (by omega)
          rw [ref_other (E := l.map (edN m)) (b := 8 ^ j * 2097152) (t := 8 ^ j * 2097152) (U := 2 ^ j * 2097152) m11 hi hj (by omega) (by rw [part_self]; exact hgj.row i hi) (by rw [ej]; exact hgj.row j hj) hb.1 hb.1 hb.2.2.1 (by omega)]
          congr 1
          refine part_succ fun k hk => ?_
          rw [part_self, ej]
          unfold phR; rw [if_pos h]
        · subst h
          rw [ref_self (E := l.map (edN m)) (b := 8 ^ i * 2097152) (U := 2 ^ i * 2097152) m11 hi (by rw [part_self]; exact hgj.row i hi) (by rw [part_self]; exact hgj.diag i hi) hb.1 hb.2.2.1 (by omega)]
          congr 1
          refine part_succ fun k hk => ?_
          rw [part_self]
          unfold phR; rw [if_neg (Nat.lt_irrefl _), if_pos rfl]
        · have ej : part (phR m j G) G i j = passS j (G j) m := by
            rw [part_lt h]
            unfold phR; rw [if_neg (Nat.lt_irrefl _), if_pos rfl]
          rw [ref_other (E := l.map (edN m)) (b := 8 ^ j * 2097152) (t := 8 ^ j * 2097152 + 8 ^ j * 2097152 + 8 ^ j * 2097152) (U := 2 ^ j * 2097152) m11 hi hj (by omega) (by rw [part_self]; exact hgj.row i hi) (by rw [ej]; exact s1) hb.1 (by omega) hb.2.2.1 (by omega)]
          congr 1
          refine part_succ fun k hk => ?_
          rw [part_self, ej]
          unfold phR; rw [if_neg (by omega), if_neg (by omega)]
      refine Eq.trans (congrArg (fun z => Option.bind z _) key) ?_
      simp only [Option.bind_some]
      rw [w64_succ (n := m) hi (by omega)]
    · simp only
      rw [if_neg (by simp only [decide_eq_true_eq]; omega), part_full]
    · rw [w64_succ (n := m) hj (by omega)]
  · simp only
    rw [if_neg (by simp only [decide_eq_true_eq]; omega)]
    rfl
  · refine scan_bind m (fun i => decide (tR m l i i < 0)) (.inl ()) (fun _ => .inr ([], 14)) ?_ ?_ ?_ ?_ ?_
    · intro i hi hp
      rw [if_pos (by simp only [decide_eq_true_eq]; omega), tab_idx hi]
      simp only [Option.bind_some]
      rw [rowL_idx hi]
      simp only [Option.bind_some]
      rw [hp, if_neg (by simp), w64_succ (n := m) hi (by omega)]
    · intro i hi hp
      rw [if_pos (by simp only [decide_eq_true_eq]; omega), tab_idx hi]
      simp only [Option.bind_some]
      rw [rowL_idx hi]
      simp only [Option.bind_some]
      rw [hp, if_pos rfl]
    · rw [if_neg (by simp only [decide_eq_true_eq]; omega)]
    · intro hno
      have : negB m (tR m l) = false := negB_false.2 fun i hi => by simpa using hno i hi
      simp only [this]
      rfl
    · intro i hi hp
      rw [negB_true hi hp]; rfl

/-- What Close gives. -/
def closeS (n : Int) (l : List SDiff) : List (List Int) × Int :=
  if validS n l ≠ 0 then ([], validS n l) else if negB (n + 1).toNat (tP (n + 1).toNat l) = true then ([], 14) else (tab (n + 1).toNat (tP (n + 1).toNat l), 0)
theorem close_is (n : Int) (l : List SDiff) : fClose n l = some (closeS n l) := by
  unfold fClose closeS
  rw [edges_is]
  simp only [Option.bind_some]
  by_cases h : validS n l = 0
  · obtain ⟨m, rfl, hv⟩ := valid_of h
    have hmm : ((m : Int) - 1 + 1).toNat = m := by omega
    rw [h, if_pos rfl, if_neg (by simp), if_neg (fun h => h rfl), hmm, closed_is hv]
    simp only [Option.bind_some]
    cases negB m (tP m l) <;> rfl
  · rw [if_neg h, if_pos (by simpa using h), if_pos h]
theorem tPR {m : Nat} {l : List SDiff} (hv : Valid m l) : negB m (tR m l) = negB m (tP m l) ∧ (negB m (tP m l) = false → tab m (tR m l) = tab m (tP m l)) := by
  have f1 := tP_fin hv
  have f2 := tR_fin hv
  have hE := eds_w hv
  constructor
  · cases h : negB m (tP m l) with
    | false => rw [negB_false] at h ⊢; exact fin_neg f1 f2 hE h
    | true =>
      cases h2 : negB m (tR m l) with
      | true => rfl
      | false =>
        rw [negB_false] at h2
        have := negB_false.2 (fin_neg f2 f1 hE h2)
        rw [this] at h; cases h
  · intro h
    rw [negB_false] at h
    exact tab_congr fun i k hi hk => (fin_eq f1 f2 hE h i k hi hk).symm
theorem closeR_is (n : Int) (l : List SDiff) : fCloseR n l = some (closeS n l) := by
  by_cases h : validS n l = 0
  · obtain ⟨m, rfl, hv⟩ := valid_of h
    have hmm : ((m : Int) - 1 + 1).toNat = m := by omega
    rw [closeR_tab hv h]
    obtain ⟨e1, e2⟩ := tPR hv
    unfold closeS
    rw [if_neg (show ¬ validS ((m : Int) - 1) l ≠ 0 from fun h2 => h2 h), hmm, e1]
    cases hn : negB m (tP m l) with
    | true => rfl
    | false =>
      rw [if_neg (by simp), if_neg (by simp), e2 hn]
  · unfold fCloseR closeS
    rw [validR14_is]
    simp only [Option.bind_some]
    rw [if_pos (by simpa using h), if_pos h]

end Go.Proofs.Ytjniiejgccdhiaa
