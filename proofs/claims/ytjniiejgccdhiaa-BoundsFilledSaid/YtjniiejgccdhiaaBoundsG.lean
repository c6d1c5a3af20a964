/- Package bounds: Close and its reference, up to the rounds. No condition. -/
import Derived.Test.YtjniiejgccdhiaaBoundsF
import Derived.Test.YtjniiejgccdhiaaEvalA
namespace Go.Proofs.Ytjniiejgccdhiaa
open Go.Sim

theorem first_true (n : Nat) (p : Nat → Bool) (h : ∃ k, k < n ∧ p k = true) : ∃ k, k < n ∧ p k = true ∧ ∀ j, j < k → p j = false := by
  induction n with
  | zero => obtain ⟨k, hk, _⟩ := h; omega
  | succ n ih =>
    by_cases h2 : ∃ k, k < n ∧ p k = true
    · obtain ⟨k, hk, hp, hm⟩ := ih h2
      exact ⟨k, by omega, hp, hm⟩
    · obtain ⟨k, hk, hp⟩ := h
      have hkn : k = n := by
        rcases Nat.lt_or_ge k n with h3 | h3
        · exact (h2 ⟨k, h3, hp⟩).elim
        · omega
      subst hkn
      refine ⟨k, hk, hp, fun j hj => ?_⟩
      rw [← Bool.not_eq_true]
      exact fun h3 => h2 ⟨j, hj, h3⟩

/-! Which differences are valid -/

def badD (n : Int) (d : SDiff) : Bool := ((((((decide (d.A < -1) || decide (d.A ≥ n)) || decide (d.B < -1)) || decide (d.B ≥ n)) || d.A == d.B) || decide (d.N < -2097152)) || decide (d.N > 2097152))
def validS (n : Int) (l : List SDiff) : Int := if (decide (n > 10) || decide ((l.length : Int) > 64)) = true then 4 else if decide (n < 0) = true then 1 else if l.any (badD n) = true then 1 else 0
theorem validR14_is (n : Int) (l : List SDiff) : fValidR14 n l = some (validS n l) := by
  unfold fValidR14 validS
  by_cases h1 : (decide (n > 10) || decide ((l.length : Int) > 64)) = true
  · rw [if_pos h1, if_pos h1]
  · rw [if_neg h1, if_neg h1]
    by_cases h2 : decide (n < 0) = true
    · rw [if_pos h2, if_pos h2]
    · rw [if_neg h2, if_neg h2]
      have hl : l.length ≤ 64 := by simp only [Bool.or_eq_true, decide_eq_true_eq, not_or] at h1; omega
      refine scan_bind l.length (fun k => badD n (l.getD k default)) (.inl ()) (fun _ => .inr 1) ?_ ?_ ?_ ?_ ?_
      · intro k hk hp
        rw [if_pos (by simpa using hk), idx_lt hk]
        rw [List.getD_eq_getElem?_getD, List.getElem?_eq_getElem hk] at hp
        simp only [Option.bind_some]
        rw [if_neg (by intro h; have : badD n l[k] = true := h; rw [show badD n l[k] = false from hp] at this; cases this), w64_succ (n := l.length) hk (by omega)]
      · intro k hk hp
        rw [if_pos (by simpa using hk), idx_lt hk]
        rw [List.getD_eq_getElem?_getD, List.getElem?_eq_getElem hk] at hp
        simp only [Option.bind_some]
        exact if_pos (show badD n l[k] = true from hp)
      · rw [if_neg (by simp)]
      · intro hno
        have : l.any (badD n) = false := by
          rw [List.any_eq_false]
          intro x hx
          obtain ⟨k, hk, rfl⟩ := List.getElem_of_mem hx
          have := hno k hk
          rw [List.getD_eq_getElem?_getD, List.getElem?_eq_getElem hk] at this
          simpa using this
        simp only
        rw [this]; rfl
      · intro k hk hp
        rw [List.getD_eq_getElem?_getD, List.getElem?_eq_getElem hk] at hp
        have : l.any (badD n) = true := List.any_eq_true.2 ⟨_, List.getElem_mem hk, hp⟩
        simp only
        rw [this]; rfl

theorem valid0 {n : Int} {l : List SDiff} (h : validS n l = 0) : 0 ≤ n ∧ n ≤ 10 ∧ l.length ≤ 64 ∧ ∀ d ∈ l, -1 ≤ d.A ∧ d.A < n ∧ -1 ≤ d.B ∧ d.B < n ∧ d.A ≠ d.B ∧ -2097152 ≤ d.N ∧ d.N ≤ 2097152 := by
  unfold validS at h
  split at h
  · cases h
  · rename_i h1
    split at h
    · cases h
    · rename_i h2
      split at h
      · cases h
      · rename_i h3
        simp only [Bool.or_eq_true, decide_eq_true_eq, not_or] at h1 h2
        refine ⟨by omega, by omega, by omega, fun d hd => ?_⟩
        have : badD n d = false := by
          rw [← Bool.not_eq_true]
          intro hb
          exact h3 (List.any_eq_true.2 ⟨d, hd, hb⟩)
        simp only [badD, Bool.or_eq_false_iff, decide_eq_false_iff_not, beq_eq_false_iff_ne, ne_eq] at this
        obtain ⟨⟨⟨⟨⟨⟨a1, a2⟩, a3⟩, a4⟩, a5⟩, a6⟩, a7⟩ := this
        exact ⟨by omega, by omega, by omega, by omega, a5, by omega, by omega⟩

/-! Edges -/

/-- The row of a value, of m rows. -/
def rowN (m : Nat) (a : Int) : Nat := if a < 0 then m - 1 else a.toNat
def edN (m : Nat) (d : SDiff) : Ed := ⟨rowN m d.A, rowN m d.B, d.N⟩
def edS (m : Nat) (d : SDiff) : SEdge := ⟨(rowN m d.A : Int), (rowN m d.B : Int), d.N⟩
theorem rowN_lt {m : Nat} {a : Int} (h1 : -1 ≤ a) (h2 : a < (m : Int) - 1) : rowN m a < m := by unfold rowN; split <;> omega
theorem row_mod {m : Nat} {a : Int} (hm : 1 ≤ m) (hm2 : m ≤ 11) (h1 : -1 ≤ a) (h2 : a < (m : Int) - 1) : Int.tmod (IntKind.i64.wrap (IntKind.i64.wrap (a + ((m : Int) - 1)) + 1)) (m : Int) = (rowN m a : Int) := by
  rw [w64 (n := a + ((m : Int) - 1)) (by omega) (by omega), w64 (by omega) (by omega)]
  unfold rowN
  split
  · have : a = -1 := by omega
    subst this
    rw [Int.tmod_eq_emod_of_nonneg (by omega), Int.emod_eq_of_lt (by omega) (by omega)]; omega
  · rw [Int.tmod_eq_emod_of_nonneg (by omega)]
    have : a + ((m : Int) - 1) + 1 = a + m := by omega
    rw [this, Int.add_emod_right, Int.emod_eq_of_lt (by omega) (by omega)]; omega
theorem frow_is {m : Nat} {a : Int} (h1 : -1 ≤ a) (h2 : a < (m : Int) - 1) : frow ((m : Int) - 1) a = some ((rowN m a : Nat) : Int) := by
  unfold frow rowN
  by_cases h : a < 0
  · rw [if_pos (by simpa using h), if_pos h]; congr 1; omega
  · rw [if_neg (by simpa using h), if_neg h]; congr 1; omega

theorem imin_max_bad (n : Int) (d : SDiff) : (((((decide (imin d.A d.B < -1)) || (decide (imax d.A d.B ≥ n))) || (d.A == d.B)) || (decide (d.N < -2097152))) || (decide (d.N > 2097152))) = badD n d := by
  have e : (decide (imin d.A d.B < -1) || decide (imax d.A d.B ≥ n)) = ((decide (d.A < -1) || decide (d.A ≥ n)) || decide (d.B < -1) || decide (d.B ≥ n)) := by
    have i1 : imin d.A d.B < -1 ↔ (d.A < -1 ∨ d.B < -1) := by unfold imin; split <;> omega
    have i2 : imax d.A d.B ≥ n ↔ (d.A ≥ n ∨ d.B ≥ n) := by unfold imax; split <;> omega
    rw [Bool.eq_iff_iff]
    simp only [Bool.or_eq_true, decide_eq_true_eq, i1, i2]
    omega
  unfold badD
  rw [e]

theorem edges_is (n : Int) (l : List SDiff) : fedges n l = some (if validS n l = 0 then (l.map (edS (n + 1).toNat), 0) else ([], validS n l)) := by
  unfold fedges
  by_cases h1 : (decide (n > 10) || decide ((l.length : Int) > 64)) = true
  · have e : validS n l = 4 := by unfold validS; rw [if_pos h1]
    rw [if_pos h1, e]; rfl
  · rw [if_neg h1]
    by_cases h2 : decide (n < 0) = true
    · have e : validS n l = 1 := by unfold validS; rw [if_neg h1, if_pos h2]
      rw [if_pos h2, e]; rfl
    · rw [if_neg h2]
      have hl : l.length ≤ 64 := by simp only [Bool.or_eq_true, decide_eq_true_eq, not_or] at h1; omega
      have hn : 0 ≤ n ∧ n ≤ 10 := by simp only [Bool.or_eq_true, decide_eq_true_eq, not_or] at h1 h2; omega
      obtain ⟨m, hm⟩ : ∃ m : Nat, n = (m : Int) - 1 := ⟨(n + 1).toNat, by omega⟩
      subst hm
      have hmm : ((m : Int) - 1 + 1).toNat = m := by omega
      rw [hmm, mk_nat _ _ (by omega)]
      simp only [Option.bind_some]
      have hw : IntKind.i64.wrap ((m : Int) - 1 + 1) = (m : Int) := by rw [w64 (by omega) (by omega)]; omega
      rw [hw]
      have st : ∀ k, k < l.length → badD ((m : Int) - 1) (l.getD k default) = false → ∀ z : List SEdge, z.length = l.length →
          (idx l (k : Int)).bind (fun t26 => (if (((((decide (imin t26.A t26.B < -1)) || (decide (imax t26.A t26.B ≥ (m : Int) - 1))) || (t26.A == t26.B)) || (decide (t26.N < -2097152))) || (decide (t26.N > 2097152))) = true then (some (.inr (.inr ((1:Int), ([] : List SEdge)))) : Option ((Int × List SEdge) ⊕ ((List SEdge) ⊕ (Int × List SEdge)))) else (nz (m : Int)).bind fun _ => (nz (m : Int)).bind fun _ =>
            (setAt z (k : Int) (SEdge.mk (Int.tmod (IntKind.i64.wrap (IntKind.i64.wrap (t26.A + ((m : Int) - 1)) + 1)) (m : Int)) (Int.tmod (IntKind.i64.wrap (IntKind.i64.wrap (t26.B + ((m : Int) - 1)) + 1)) (m : Int)) t26.N)).bind fun t81s => some (.inl (IntKind.i64.wrap ((k : Int) + 1), t81s)))) =
          some (.inl (((k + 1 : Nat) : Int), z.set k (edS m (l.getD k default)))) := by
        intro k hk hb z hz
        rw [List.getD_eq_getElem?_getD, List.getElem?_eq_getElem hk] at hb ⊢
        simp only [Option.getD_some] at hb ⊢
        rw [idx_lt hk]
        simp only [Option.bind_some]
        rw [imin_max_bad, hb, if_neg (by simp)]
        simp only [badD, Bool.or_eq_false_iff, decide_eq_false_iff_not, beq_eq_false_iff_ne, ne_eq] at hb
        obtain ⟨⟨⟨⟨⟨⟨a1, a2⟩, a3⟩, a4⟩, a5⟩, a6⟩, a7⟩ := hb
        rw [nz_of (by omega)]
        simp only [Option.bind_some]
        rw [row_mod (by omega) (by omega) (by omega) (by omega), row_mod (by omega) (by omega) (by omega) (by omega), setAt_lt (by omega)]
        simp only [Option.bind_some]
        rw [w64_succ (n := l.length) hk (by omega)]
        rfl
      by_cases hb : l.any (badD ((m : Int) - 1)) = true
      · have e : validS ((m : Int) - 1) l = 1 := by unfold validS; rw [if_neg h1, if_neg h2, if_pos hb]
        rw [e, if_neg (by decide)]
        obtain ⟨k0, hk0, hp0, hmin⟩ := first_true l.length (fun k => badD ((m : Int) - 1) (l.getD k default)) (by
          obtain ⟨x, hx, hp⟩ := List.any_eq_true.1 hb
          obtain ⟨k, hk, rfl⟩ := List.getElem_of_mem hx
          exact ⟨k, hk, by rw [List.getD_eq_getElem?_getD, List.getElem?_eq_getElem hk]; exact hp⟩)
        refine for_bind k0 (fun k => ((k : Int), (l.map (edS m)).take k ++ (List.replicate l.length (SEdge.mk 0 0 0)).drop k)) (.inr ((1:Int), ([] : List SEdge))) (by simp) ?_ ?_ rfl
        · intro k hk
          simp only
          rw [if_pos (by simp; omega), st k (by omega) (hmin k hk) _ (by simp; omega)]
          have h2 : edS m (l.getD k default) = (l.map (edS m))[k]'(by simp; omega) := by
            rw [List.getD_eq_getElem?_getD, List.getElem?_eq_getElem (by omega)]; simp
          rw [h2, fill_set _ _ (by simp; omega) (by simp; omega)]
        · simp only
          rw [if_pos (by simpa using hk0), idx_lt hk0]
          simp only [Option.bind_some]
          rw [List.getD_eq_getElem?_getD, List.getElem?_eq_getElem hk0] at hp0
          rw [imin_max_bad, if_pos (show badD _ l[k0] = true from hp0)]
      · have hb' : l.any (badD ((m : Int) - 1)) = false := by simpa using hb
        have e : validS ((m : Int) - 1) l = 0 := by unfold validS; rw [if_neg h1, if_neg h2, if_neg hb]
        rw [e, if_pos rfl]
        have hall : ∀ k, k < l.length → badD ((m : Int) - 1) (l.getD k default) = false := by
          intro k hk
          rw [List.any_eq_false] at hb'
          have := hb' _ (List.getElem_mem hk)
          rw [List.getD_eq_getElem?_getD, List.getElem?_eq_getElem hk]
          simpa using this
        refine for_bind l.length (fun k => ((k : Int), (l.map (edS m)).take k ++ (List.replicate l.length (SEdge.mk 0 0 0)).drop k)) (.inl (l.map (edS m))) (by simp) ?_ ?_ rfl
        · intro k hk
          simp only
          rw [if_pos (by simpa using hk), st k hk (hall k hk) _ (by simp; omega)]
          have h2 : edS m (l.getD k default) = (l.map (edS m))[k]'(by simpa using hk) := by
            rw [List.getD_eq_getElem?_getD, List.getElem?_eq_getElem hk]; simp
          rw [h2, fill_set _ _ (by simpa using hk) (by simpa using hk)]
        · simp only
          rw [if_neg (by simp)]
          simp [List.take_of_length_le]

end Go.Proofs.Ytjniiejgccdhiaa
