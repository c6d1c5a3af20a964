/- Package bounds: filling step by step. No condition. -/
import Derived.Test.YtjniiejgccdhiaaBoundsX
namespace Go.Proofs.Ytjniiejgccdhiaa
open Go.Sim

theorem pickS_in {lo hi : Int} (p : Int) (h : lo ≤ hi) (h1 : -2000000000 ≤ lo) (h2 : hi ≤ 2000000000) : lo ≤ pickS (lo, hi, 0) p ∧ pickS (lo, hi, 0) p ≤ hi := by
  unfold pickS
  simp only
  rw [w64 (n := hi - lo) (by omega) (by omega), w64 (n := hi - lo + 1) (by omega) (by omega)]
  have t1 := Int.tmod_lt_of_pos p (b := hi - lo + 1) (by omega)
  have t2 := Int.lt_tmod_of_pos p (b := hi - lo + 1) (by omega)
  generalize Int.tmod p (hi - lo + 1) = t at t1 t2
  rw [w64 (n := t + (hi - lo + 1)) (by omega) (by omega), Int.tmod_eq_emod_of_nonneg (by omega)]
  have e1 := Int.emod_nonneg (t + (hi - lo + 1)) (b := hi - lo + 1) (by omega)
  have e2 := Int.emod_lt_of_pos (t + (hi - lo + 1)) (b := hi - lo + 1) (by omega)
  rw [w64 (by omega) (by omega)]
  omega
theorem pickS_at {lo hi v : Int} (h3 : lo ≤ v) (h4 : v ≤ hi) (h1 : -2000000000 ≤ lo) (h2 : hi ≤ 2000000000) : pickS (lo, hi, 0) (v - lo) = v := by
  unfold pickS
  simp only
  rw [w64 (n := hi - lo) (by omega) (by omega), w64 (n := hi - lo + 1) (by omega) (by omega)]
  rw [Int.tmod_eq_emod_of_nonneg (a := v - lo) (by omega), Int.emod_eq_of_lt (a := v - lo) (by omega) (by omega), w64 (n := v - lo + (hi - lo + 1)) (by omega) (by omega), Int.tmod_eq_emod_of_nonneg (by omega), Int.add_emod_right, Int.emod_eq_of_lt (by omega) (by omega), w64 (by omega) (by omega)]
  omega

theorem vv_snoc {m : Nat} {vs : List Int} {v : Int} (h : vs.length + 1 < m) (i : Nat) (hi : Seen m vs.length i) : vv m (vs ++ [v]) i = vv m vs i := by
  unfold vv
  by_cases h1 : i = m - 1
  · rw [if_pos h1, if_pos h1]
  · rw [if_neg h1, if_neg h1, List.getD_eq_getElem?_getD, List.getD_eq_getElem?_getD, List.getElem?_append_left]
    rcases hi with h2 | h2
    · exact h2
    · exact (h1 h2).elim
theorem vv_last {m : Nat} {vs : List Int} {v : Int} (h : vs.length + 1 < m) : vv m (vs ++ [v]) vs.length = v := by
  unfold vv
  rw [if_neg (by omega), List.getD_eq_getElem?_getD]; simp

theorem kept_snoc {m : Nat} {G : Nat → Nat → Int} {B : Int} (hG : Small m G) {vs : List Int} (hk : vs.length + 1 < m) (hK : Kept m G B vs) {v : Int} (hB : B ≤ 900000000)
    (h1 : (loB (tab m G) vs (vs.length + 1)).2 ≤ v) (h2 : v ≤ (hiB (tab m G) vs (vs.length + 1)).2) (hv : -(B + 2097152) ≤ v ∧ v ≤ B + 2097152) : Kept m G (B + 2097152) (vs ++ [v]) := by
  have hl := (rng_lo hG hk hK).1
  have hh := (rng_hi hG hk hK).1
  have b0 := hK.b0
  refine ⟨by omega, by omega, fun x hx => ?_, fun i j hi hj hf => ?_⟩
  · rcases List.mem_append.1 hx with h | h
    · have := hK.bd x h; omega
    · obtain rfl := List.mem_singleton.1 h; exact hv
  · have split : ∀ i, Seen m (vs ++ [v]).length i → i = vs.length ∨ (Seen m vs.length i) := by
      intro i h
      rcases h with h | h
      · simp only [List.length_append, List.length_cons, List.length_nil] at h
        by_cases h2 : i = vs.length
        · exact .inl h2
        · exact .inr (.inl (by omega))
      · exact .inr (.inr h)
    rcases split i hi with rfl | hi
    · rcases split j hj with rfl | hj
      · have := hG.diag vs.length (by omega); omega
      · rw [vv_last hk, vv_snoc hk j hj]
        have := hh j hj hf; omega
    · rcases split j hj with rfl | hj
      · rw [vv_last hk, vv_snoc hk i hi]
        have := hl i hi hf; omega
      · rw [vv_snoc hk i hi, vv_snoc hk j hj]
        exact hK.ok i j hi hj hf

/-- At place q there is a lower and an upper end. -/
def Ends (m : Nat) (G : Nat → Nat → Int) (q : Nat) : Prop := (∃ i, Seen m q i ∧ G i q < INF) ∧ ∃ i, Seen m q i ∧ G q i < INF

theorem fill_kept {m : Nat} {G : Nat → Nat → Int} (hG : Small m G) (picks : List Int) : ∀ (k : Nat) (vs p : List Int), vs.length + k = m - 1 → Kept m G ((vs.length : Int) * 2097152) vs → fillE (tab m G) picks k vs = .inl p →
    p.length = m - 1 ∧ Kept m G (((m - 1 : Nat) : Int) * 2097152) p ∧ ∀ q, vs.length ≤ q → q < m - 1 → Ends m G q := by
  have m6 := hG.m6
  have m2 := hG.m2
  intro k
  induction k with
  | zero =>
    intro vs p hk hK h
    unfold fillE at h
    cases h
    exact ⟨by omega, by rw [show m - 1 = vs.length by omega]; exact hK, fun q h1 h2 => by omega⟩
  | succ k ih =>
    intro vs p hk hK h
    have hkm : vs.length + 1 < m := by omega
    unfold fillE at h
    by_cases hs : stopB (rangeS (tab m G) vs) = true
    · rw [if_pos hs] at h; cases h
    · rw [if_neg hs] at h
      unfold stopB at hs
      simp only [Bool.or_eq_true, not_or, bne_iff_ne, ne_eq, beq_iff_eq, Decidable.not_not] at hs
      obtain ⟨⟨h0, hlo⟩, hhi⟩ := hs
      obtain ⟨_, _, e1, e2, hle⟩ := rangeS_ok h0
      have hrl := rng_lo hG hkm hK
      have hrh := rng_hi hG hkm hK
      have f1 : ∃ i, Seen m vs.length i ∧ G i vs.length < INF := Classical.byContradiction fun hno => hlo (e1.trans (hrl.2.2.1 hno))
      have f2 : ∃ i, Seen m vs.length i ∧ G vs.length i < INF := Classical.byContradiction fun hno => hhi (e2.trans (hrh.2.2.1 hno))
      have b1 := hrl.2.1 f1
      have b2 := hrh.2.1 f2
      have er : rangeS (tab m G) vs = ((loB (tab m G) vs (vs.length + 1)).2, (hiB (tab m G) vs (vs.length + 1)).2, 0) := by
        rw [← e1, ← e2, ← h0]
      rw [er] at h
      obtain ⟨p1, p2⟩ := pickS_in (picks.getD vs.length 0) hle (by omega) (by omega)
      generalize pickS ((loB (tab m G) vs (vs.length + 1)).2, (hiB (tab m G) vs (vs.length + 1)).2, 0) (picks.getD vs.length 0) = v at h p1 p2
      have hK2 := kept_snoc hG hkm hK (by omega) p1 p2 (by omega)
      have hlen : (vs ++ [v]).length = vs.length + 1 := by simp
      obtain ⟨r1, r2, r3⟩ := ih (vs ++ [v]) p (by omega) (by rw [hlen, show ((vs.length + 1 : Nat) : Int) * 2097152 = (vs.length : Int) * 2097152 + 2097152 by omega]; exact hK2) h
      refine ⟨r1, r2, fun q h1 h2 => ?_⟩
      by_cases hq : q = vs.length
      · rw [hq]; exact ⟨f1, f2⟩
      · exact r3 q (by omega) h2

theorem rangeS_good {m : Nat} {G : Nat → Nat → Int} {B : Int} (hG : Small m G) {vs : List Int} (hk : vs.length + 1 < m) (hK : Kept m G B vs) (hle : (loB (tab m G) vs (vs.length + 1)).2 ≤ (hiB (tab m G) vs (vs.length + 1)).2) :
    rangeS (tab m G) vs = ((loB (tab m G) vs (vs.length + 1)).2, (hiB (tab m G) vs (vs.length + 1)).2, 0) := by
  have m6 := hG.m6
  have u0 : INF = 1099511627776 := rfl
  have hbad : badT (tab m G) vs = false := by
    unfold badT
    rw [tab_len]
    simp only [Bool.or_eq_false_iff, decide_eq_false_iff_not]
    refine ⟨⟨by omega, by omega⟩, ?_, ?_⟩
    · rw [List.any_eq_false]
      intro x hx
      have := hK.bd x hx
      have := hK.b1
      rw [Bool.not_eq_true, wild_not]; omega
    · rw [List.any_eq_false]
      intro r hr
      obtain ⟨i, hi, rfl⟩ := List.mem_map.1 hr
      rw [List.mem_range] at hi
      rw [Bool.not_eq_true]
      unfold badRow
      simp only [Bool.or_eq_false_iff]
      refine ⟨by rw [rowL_len]; simp, ?_⟩
      rw [List.any_eq_false]
      intro x hx
      obtain ⟨j, hj, rfl⟩ := List.mem_map.1 hx
      rw [List.mem_range] at hj
      have h1 := hG.lo i j hi hj
      have h2 := hG.hi i j hi hj
      rw [Bool.not_eq_true, wild_not]; omega
  unfold rangeS
  rw [hbad, if_neg (by simp), if_neg (by rw [tab_len]; simp; omega), if_neg (by simp; omega)]

/-- The picks that lead to given values. -/
theorem fill_again {m : Nat} {G : Nat → Nat → Int} {B : Int} (hG : Small m G) (V C : List Int) (hV : V.length = m - 1) (hB : B ≤ 900000000) (hK : ∀ k, k ≤ m - 1 → Kept m G B (V.take k)) (hE : ∀ q, q < m - 1 → Ends m G q)
    (hC : ∀ k, k < m - 1 → C.getD k 0 = V.getD k 0 - (loB (tab m G) (V.take k) (k + 1)).2)
    (hR : ∀ k, k < m - 1 → (loB (tab m G) (V.take k) (k + 1)).2 ≤ V.getD k 0 ∧ V.getD k 0 ≤ (hiB (tab m G) (V.take k) (k + 1)).2) :
    ∀ k j, j + k = m - 1 → fillE (tab m G) C k (V.take j) = .inl V := by
  have m6 := hG.m6
  intro k
  induction k with
  | zero =>
    intro j hj
    unfold fillE
    rw [List.take_of_length_le (by omega)]
  | succ k ih =>
    intro j hj
    have hl : (V.take j).length = j := by rw [List.length_take]; omega
    have hkm : (V.take j).length + 1 < m := by omega
    have hk := hK j (by omega)
    have he := hE j (by omega)
    have hr := hR j (by omega)
    have hb := hk.b0
    have g := rangeS_good hG hkm hk (by rw [hl]; omega)
    have r1 := (rng_lo hG hkm hk).2.1
    have r2 := (rng_hi hG hkm hk).2.1
    rw [hl] at g r1 r2
    have b1 := r1 he.1
    have b2 := r2 he.2
    unfold fillE
    rw [g, if_neg, hl, hC j (by omega), pickS_at hr.1 hr.2 (by omega) (by omega)]
    · have : V.take j ++ [V.getD j 0] = V.take (j + 1) := by
        rw [List.take_succ_eq_append_getElem (show j < V.length by omega), List.getD_eq_getElem?_getD, List.getElem?_eq_getElem (show j < V.length by omega)]; rfl
      rw [this]
      exact ih (j + 1) (by omega)
    · unfold stopB
      simp only [bne_self_eq_false, Bool.false_or, Bool.or_eq_true, beq_iff_eq, not_or]
      omega

end Go.Proofs.Ytjniiejgccdhiaa
