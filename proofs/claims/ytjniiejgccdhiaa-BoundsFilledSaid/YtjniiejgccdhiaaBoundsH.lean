/- Package bounds: Close gives what its reference gives. No condition. -/
import Derived.Test.YtjniiejgccdhiaaBoundsG
namespace Go.Proofs.Ytjniiejgccdhiaa
open Go.Sim

/-- The differences are valid, for m - 1 values. -/
structure Valid (m : Nat) (l : List SDiff) : Prop where
  m1 : 1 ≤ m
  m11 : m ≤ 11
  len : l.length ≤ 64
  ok : ∀ d ∈ l, -1 ≤ d.A ∧ d.A < (m : Int) - 1 ∧ -1 ≤ d.B ∧ d.B < (m : Int) - 1 ∧ d.A ≠ d.B ∧ -2097152 ≤ d.N ∧ d.N ≤ 2097152
theorem valid_of {n : Int} {l : List SDiff} (h : validS n l = 0) : ∃ m : Nat, n = (m : Int) - 1 ∧ Valid m l := by
  obtain ⟨h1, h2, h3, h4⟩ := valid0 h
  refine ⟨(n + 1).toNat, by omega, by omega, by omega, h3, fun d hd => ?_⟩
  obtain ⟨a1, a2, a3, a4, a5, a6, a7⟩ := h4 d hd
  exact ⟨a1, by omega, a3, by omega, a5, a6, a7⟩

def T0 (i k : Nat) : Int := if i = k then 0 else INF
def edT (G : Nat → Nat → Int) (e : Ed) : Nat → Nat → Int := upd1 G e.a (upd1 (G e.a) e.b (imin (G e.a e.b) e.w))
def edsT (E : List Ed) : Nat → Nat → Int := E.foldl edT T0
def half (m i : Nat) : List (List Int) := rowL m fun p => if p < i then rowL m (T0 p) else []
theorem half_zero (m : Nat) : half m 0 = List.replicate m [] := by
  unfold half
  rw [← rowL_rep]
  exact rowL_congr fun k _ => by simp
theorem half_full (m : Nat) : half m m = tab m T0 := rowL_congr fun k hk => by rw [if_pos hk]
theorem half_set {m i : Nat} : rowL m (upd1 (fun p => if p < i then rowL m (T0 p) else []) i (rowL m (T0 i))) = half m (i + 1) := by
  unfold half
  refine rowL_congr fun k _ => ?_
  unfold upd1
  by_cases h : k = i
  · subst h; rw [if_pos rfl, if_pos (by omega)]
  · rw [if_neg h]
    dsimp only
    by_cases h2 : k < i
    · rw [if_pos h2, if_pos (by omega)]
    · rw [if_neg h2, if_neg (by omega)]

theorem edsT_snoc (E : List Ed) (e : Ed) : edsT (E ++ [e]) = edT (edsT E) e := by unfold edsT; rw [List.foldl_append]; rfl

theorem eds_grid {m : Nat} {l : List SDiff} (hv : Valid m l) : ∀ t, t ≤ l.length → GridOk (l.map (edN m)) m 2097152 2097152 (edsT ((l.map (edN m)).take t)) ∧ ∀ e ∈ (l.map (edN m)).take t, edsT ((l.map (edN m)).take t) e.a e.b ≤ e.w := by
  intro t
  induction t with
  | zero =>
    intro _
    refine ⟨⟨fun i hi => ⟨fun q hq => ?_, fun q hq => ?_, fun q hq hf => ?_, fun q hq hf => ?_⟩, fun i hi => ?_⟩, fun e he => by simp at he⟩
    · show -2097152 ≤ T0 i q
      unfold T0; split <;> decide
    · show T0 i q ≤ INF
      unfold T0; split <;> decide
    · have hf' : T0 i q < INF := hf
      show T0 i q ≤ 2097152
      unfold T0 at hf' ⊢; split
      · decide
      · rename_i h; rw [if_neg h] at hf'; exact absurd hf' (Int.lt_irrefl _)
    · have hf' : T0 i q < INF := hf
      show Way _ i q (T0 i q)
      unfold T0 at hf' ⊢; split
      · rename_i h; subst h; exact .nil _
      · rename_i h; rw [if_neg h] at hf'; exact absurd hf' (Int.lt_irrefl _)
    · show T0 i i ≤ 0
      unfold T0; rw [if_pos rfl]; exact Int.le_refl _
  | succ t ih =>
    intro ht
    obtain ⟨h1, h2⟩ := ih (by omega)
    have htl : t < (l.map (edN m)).length := by simp; omega
    obtain ⟨e, he⟩ : ∃ e, (l.map (edN m))[t] = e := ⟨_, rfl⟩
    have hmem : e ∈ l.map (edN m) := by rw [← he]; exact List.getElem_mem htl
    rw [List.take_succ_eq_append_getElem htl, he, edsT_snoc]
    generalize edsT ((l.map (edN m)).take t) = G at h1 h2
    obtain ⟨d, hd, hde⟩ := List.mem_map.1 hmem
    obtain ⟨a1, a2, a3, a4, a5, a6, a7⟩ := hv.ok d hd
    have ra : e.a < m := by rw [← hde]; exact rowN_lt a1 a2
    have rb : e.b < m := by rw [← hde]; exact rowN_lt a3 a4
    have hw : -2097152 ≤ e.w ∧ e.w ≤ 2097152 := by rw [← hde]; exact ⟨a6, a7⟩
    have hab : e.a ≠ e.b := by
      have m1 := hv.m1
      rw [← hde]
      show rowN m d.A ≠ rowN m d.B
      unfold rowN
      split <;> split <;> omega
    obtain ⟨m1, m2, m3⟩ := imin_le (G e.a e.b) e.w
    have val : ∀ i k, edT G e i k = if i = e.a ∧ k = e.b then imin (G e.a e.b) e.w else G i k := by
      intro i k
      unfold edT upd1
      by_cases hi : i = e.a
      · subst hi
        rw [if_pos rfl]
        by_cases hk : k = e.b
        · rw [if_pos hk, if_pos ⟨rfl, hk⟩]
        · rw [if_neg hk, if_neg (fun h => hk h.2)]
      · rw [if_neg hi, if_neg (fun h => hi h.1)]
    have ok := h1.row e.a ra
    have u0 : INF = 1099511627776 := rfl
    refine ⟨⟨fun i hi => ⟨fun q hq => ?_, fun q hq => ?_, fun q hq hf => ?_, fun q hq hf => ?_⟩, fun i hi => ?_⟩, fun e' he' => ?_⟩
    · rw [val]; split
      · have := ok.lo e.b rb
        rcases m3 with h | h <;> rw [h] <;> omega
      · exact (h1.row i hi).lo q hq
    · rw [val]; split
      · have := ok.hi e.b rb; omega
      · exact (h1.row i hi).hi q hq
    · rw [val] at hf ⊢; split
      · omega
      · rename_i h; rw [if_neg h] at hf; exact (h1.row i hi).up q hq hf
    · rw [val] at hf ⊢
      split
      · rename_i h
        rw [if_pos h] at hf
        obtain ⟨rfl, rfl⟩ := h
        rcases m3 with h | h
        · rw [h] at hf ⊢; exact ok.way _ rb hf
        · rw [h]; exact .one hmem
      · rename_i h; rw [if_neg h] at hf; exact (h1.row i hi).way q hq hf
    · rw [val, if_neg (fun h => hab (h.1.symm.trans h.2))]; exact h1.diag i hi
    · rw [val]
      rcases List.mem_append.1 he' with h | h
      · have := h2 e' h
        split
        · rename_i h3
          rw [h3.1, h3.2] at this
          omega
        · exact this
      · obtain rfl := List.mem_singleton.1 h
        rw [if_pos ⟨rfl, rfl⟩]; exact m2

theorem eds_ok {m : Nat} {l : List SDiff} (hv : Valid m l) : GridOk (l.map (edN m)) m 2097152 2097152 (edsT (l.map (edN m))) ∧ ∀ e ∈ l.map (edN m), e.a < m ∧ e.b < m ∧ edsT (l.map (edN m)) e.a e.b ≤ e.w := by
  have h := eds_grid hv l.length (Nat.le_refl _)
  rw [List.take_of_length_le (by simp)] at h
  refine ⟨h.1, fun e he => ⟨?_, ?_, h.2 e he⟩⟩
  · obtain ⟨d, hd, rfl⟩ := List.mem_map.1 he
    obtain ⟨a1, a2, _⟩ := hv.ok d hd
    exact rowN_lt a1 a2
  · obtain ⟨d, hd, rfl⟩ := List.mem_map.1 he
    obtain ⟨_, _, a3, a4, _⟩ := hv.ok d hd
    exact rowN_lt a3 a4
theorem eds_w {m : Nat} {l : List SDiff} (hv : Valid m l) : ∀ e ∈ l.map (edN m), e.a < m ∧ e.b < m ∧ e.w ≤ 2097152 := by
  intro e he
  have h := (eds_ok hv).2 e he
  obtain ⟨d, hd, rfl⟩ := List.mem_map.1 he
  obtain ⟨_, _, _, _, _, _, a7⟩ := hv.ok d hd
  exact ⟨h.1, h.2.1, a7⟩

/-- The finished tables of the program and of the reference. -/
def tP (m : Nat) (l : List SDiff) : Nat → Nat → Int := iters (fun j G => phP m j G) (edsT (l.map (edN m))) m
def tR (m : Nat) (l : List SDiff) : Nat → Nat → Int := iters (fun j G => phR m j G) (edsT (l.map (edN m))) m
theorem tP_fin {m : Nat} {l : List SDiff} (hv : Valid m l) : Fin (l.map (edN m)) m (tP m l) := iters_fin (phP_ok _ m) (eds_ok hv).1 hv.m11 (eds_ok hv).2
theorem tR_fin {m : Nat} {l : List SDiff} (hv : Valid m l) : Fin (l.map (edN m)) m (tR m l) := iters_fin (phR_ok _ m) (eds_ok hv).1 hv.m11 (eds_ok hv).2

/-! The reference's table -/

theorem m_wrap {m : Nat} (hm : m ≤ 11) : IntKind.i64.wrap ((m : Int) - 1 + 1) = (m : Int) := by rw [w64 (by omega) (by omega)]; omega

theorem table_is {m : Nat} {l : List SDiff} (hv : Valid m l) : ftable ((m : Int) - 1) l = some (tab m (edsT (l.map (edN m)))) := by
  have m1 := hv.m1
  have m11 := hv.m11
  unfold ftable
  rw [m_wrap m11, mk_nat _ _ (by omega)]
  simp only [Option.bind_some]
  refine for_bind m (fun i => ((i : Int), half m i)) (half m m) (by rw [half_zero]; rfl) ?_ ?_ ?_
  · intro i hi
    simp only
    rw [if_pos (by simp only [decide_eq_true_eq]; omega), mk_nat _ _ (by omega)]
    simp only [Option.bind_some]
    rw [← rowL_rep]
    unfold half
    rw [rowL_set hi]
    simp only [Option.bind_some]
    refine for_bind m (fun k => ((k : Int), rowL m (upd1 (fun p => if p < i then rowL m (T0 p) else []) i (rowL m fun q => if q < k then T0 i q else 0)))) (half m (i + 1)) ?_ ?_ ?_ ?_
    · simp
    · intro k hk
      simp only
      rw [if_pos (by simp only [decide_eq_true_eq]; omega)]
      have e1 : (if ((i : Int) != (k : Int)) = true then (idx (rowL m (upd1 (fun p => if p < i then rowL m (T0 p) else []) i (rowL m fun q => if q < k then T0 i q else 0))) (i : Int)).bind fun r101 => (setAt r101 (k : Int) (1099511627776:Int)).bind fun t38s => (setAt (rowL m (upd1 (fun p => if p < i then rowL m (T0 p) else []) i (rowL m fun q => if q < k then T0 i q else 0))) (i : Int) t38s).bind fun m102 => some m102 else some (rowL m (upd1 (fun p => if p < i then rowL m (T0 p) else []) i (rowL m fun q => if q < k then T0 i q else 0)))) = some (rowL m (upd1 (fun p => if p < i then rowL m (T0 p) else []) i (rowL m fun q => if q < k + 1 then T0 i q else 0))) := by
        by_cases hik : i = k
        · rw [if_neg (by simp [hik])]
          congr 3
          refine rowL_congr fun q _ => ?_
          by_cases h1 : q < k
          · rw [if_pos h1, if_pos (by omega)]
          · rw [if_neg h1]
            by_cases h2 : q = k
            · rw [if_pos (by omega), h2, hik]; unfold T0; rw [if_pos rfl]
            · rw [if_neg (by omega)]
        · rw [if_pos (by simp; omega), rowL_idx hi, upd1_same]
          simp only [Option.bind_some]
          rw [rowL_set hk]
          simp only [Option.bind_some]
          rw [rowL_set hi, upd1_upd1]
          simp only [Option.bind_some]
          congr 3
          refine rowL_congr fun q _ => ?_
          unfold upd1
          by_cases h2 : q = k
          · rw [if_pos h2, if_pos (by omega), h2]; unfold T0; rw [if_neg hik]
          · rw [if_neg h2]
            dsimp only
            by_cases h1 : q < k
            · rw [if_pos h1, if_pos (by omega)]
            · rw [if_neg h1, if_neg (by omega)]
      rw [e1]
      simp only [Option.bind_some]
      rw [w64_succ (n := m) hk (by omega)]
    · simp only
      rw [if_neg (by simp only [decide_eq_true_eq]; omega)]
      congr 2
      rw [← half_set]
      congr 2
      exact rowL_congr fun q hq => by rw [if_pos hq]
    · rw [w64_succ (n := m) hi (by omega)]
      rfl
  · simp only
    rw [if_neg (by simp only [decide_eq_true_eq]; omega)]
  · rw [half_full]
    refine for_bind l.length (fun t => ((t : Int), tab m (edsT ((l.map (edN m)).take t)))) (tab m (edsT (l.map (edN m)))) rfl ?_ ?_ rfl
    · intro t ht
      have htl : t < (l.map (edN m)).length := by simpa using ht
      simp only
      rw [if_pos (by simpa using ht), idx_lt ht]
      simp only [Option.bind_some]
      obtain ⟨a1, a2, a3, a4, _⟩ := hv.ok _ (List.getElem_mem ht)
      rw [frow_is a1 a2, frow_is a3 a4]
      simp only [Option.bind_some]
      rw [tab_idx (rowN_lt a1 a2)]
      simp only [Option.bind_some]
      rw [rowL_idx (rowN_lt a3 a4)]
      simp only [Option.bind_some]
      rw [rowL_set (rowN_lt a3 a4)]
      simp only [Option.bind_some]
      rw [tab_set (rowN_lt a1 a2)]
      simp only [Option.bind_some]
      rw [w64_succ (n := l.length) ht (by have := hv.len; omega), List.take_succ_eq_append_getElem htl, edsT_snoc]
      simp only [List.getElem_map]
      rfl
    · simp only
      rw [if_neg (by simp), List.take_of_length_le (by simp)]

/-! The program's table -/

theorem repeat_is {m : Nat} (h1 : 1 ≤ m) (h2 : m ≤ 11) : fRepeat [(1099511627776:Int)] (m : Int) = some (rowL m fun _ => INF) := by
  have key : ∀ m : Nat, m < 12 → 1 ≤ m → gRepeat 20 [(1099511627776:Int)] (m : Int) = some (rowL m fun _ => INF) := by decide +kernel
  exact gRepeat_le _ (key m (by omega) h1)

end Go.Proofs.Ytjniiejgccdhiaa
