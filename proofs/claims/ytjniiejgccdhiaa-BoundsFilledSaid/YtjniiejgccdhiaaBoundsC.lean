/- Package bounds: Range gives what its reference gives. No condition. -/
import Derived.Test.YtjniiejgccdhiaaBoundsB
namespace Go.Proofs.Ytjniiejgccdhiaa
open Go.Sim

def wild (x : Int) : Bool := decide (x < -1099511627776) || decide (x > 1099511627776)
def badRow (m : Nat) (r : List Int) : Bool := (r.length != m) || r.any wild
/-- What is wrong with a table and values. -/
def badT (c : List (List Int)) (vs : List Int) : Bool := (decide (c.length = 0) || decide (c.length > 11)) || (vs.any wild || c.any (badRow c.length))

def rowOf (c : List (List Int)) (vs : List Int) (j : Nat) : Nat := if j = vs.length then c.length - 1 else j
def valOf (vs : List Int) (j : Nat) : Int := (vs ++ [0]).getD j 0
def loF (c : List (List Int)) (vs : List Int) (M : Nat) : List Int :=
  (List.range M).filterMap fun j => if at2 c (rowOf c vs j) vs.length < 1099511627776 then some (IntKind.i64.wrap (valOf vs j - at2 c (rowOf c vs j) vs.length)) else none
def hiF (c : List (List Int)) (vs : List Int) (M : Nat) : List Int :=
  (List.range M).filterMap fun j => if at2 c vs.length (rowOf c vs j) < 1099511627776 then some (IntKind.i64.wrap (valOf vs j + at2 c vs.length (rowOf c vs j))) else none
def loB (c : List (List Int)) (vs : List Int) (M : Nat) : Bool × Int := best imax (-1099511627776) (loF c vs M)
def hiB (c : List (List Int)) (vs : List Int) (M : Nat) : Bool × Int := best imin 1099511627776 (hiF c vs M)
def rangeS (c : List (List Int)) (vs : List Int) : Int × Int × Int :=
  if badT c vs = true then (0, 0, 1) else if (decide ((vs.length : Int) ≥ (c.length : Int) - 1)) = true then (0, 0, 6) else
    if (decide ((loB c vs (vs.length + 1)).2 > (hiB c vs (vs.length + 1)).2)) = true then (0, 0, 14) else ((loB c vs (vs.length + 1)).2, (hiB c vs (vs.length + 1)).2, 0)

theorem loF_succ (c : List (List Int)) (vs : List Int) (M : Nat) : loF c vs (M + 1) = loF c vs M ++ (if at2 c (rowOf c vs M) vs.length < 1099511627776 then [IntKind.i64.wrap (valOf vs M - at2 c (rowOf c vs M) vs.length)] else []) := by
  unfold loF
  rw [List.range_succ, List.filterMap_append]
  congr 1
  simp only [List.filterMap_cons, List.filterMap_nil]
  split <;> rename_i h <;> split at h <;> simp_all
theorem hiF_succ (c : List (List Int)) (vs : List Int) (M : Nat) : hiF c vs (M + 1) = hiF c vs M ++ (if at2 c vs.length (rowOf c vs M) < 1099511627776 then [IntKind.i64.wrap (valOf vs M + at2 c vs.length (rowOf c vs M))] else []) := by
  unfold hiF
  rw [List.range_succ, List.filterMap_append]
  congr 1
  simp only [List.filterMap_cons, List.filterMap_nil]
  split <;> rename_i h <;> split at h <;> simp_all
theorem loF_len (c : List (List Int)) (vs : List Int) (M : Nat) : (loF c vs M).length ≤ M := by
  have := List.length_filterMap_le (fun j => if at2 c (rowOf c vs j) vs.length < 1099511627776 then some (IntKind.i64.wrap (valOf vs j - at2 c (rowOf c vs j) vs.length)) else none) (List.range M)
  simpa [loF] using this
theorem hiF_len (c : List (List Int)) (vs : List Int) (M : Nat) : (hiF c vs M).length ≤ M := by
  have := List.length_filterMap_le (fun j => if at2 c vs.length (rowOf c vs j) < 1099511627776 then some (IntKind.i64.wrap (valOf vs j + at2 c vs.length (rowOf c vs j))) else none) (List.range M)
  simpa [hiF] using this

theorem bad_sq {c : List (List Int)} {vs : List Int} (h : ¬ badT c vs = true) : Sq c.length c ∧ 1 ≤ c.length ∧ c.length ≤ 11 := by
  simp only [badT, badRow, Bool.or_eq_true, decide_eq_true_eq, not_or, List.any_eq_true, not_exists, not_and, Bool.not_eq_true] at h
  obtain ⟨⟨h1, h2⟩, _, h4⟩ := h
  refine ⟨⟨rfl, fun r hr => ?_⟩, by omega, by omega⟩
  have := (h4 r hr).1
  simpa using this

theorem range_is (c : List (List Int)) (vs : List Int) (hc : c.length < 1000000) (hv : vs.length < 1000000) (hr : ∀ r ∈ c, r.length < 1000000) : fRange c vs = some (rangeS c vs) := by
  unfold fRange
  have hw : IntKind.i64.wrap ((c.length : Int) - 1) = (c.length : Int) - 1 := w64 (by omega) (by omega)
  have hw2 : IntKind.i64.wrap ((c.length : Int) - 1 + 1) = (c.length : Int) := by rw [w64 (by omega) (by omega)]; omega
  rw [hw]
  have hci : fContainsI vs (fun x => fRange1 x) = some (vs.any wild) := containsI_gen vs _ wild (fun x _ => rfl) (by omega)
  have hcl : fContainsL c (fun x => fRange2 x ((c.length : Int) - 1)) = some (c.any (badRow c.length)) := by
    refine containsL_gen c _ _ (fun r hr' => ?_) (by omega)
    unfold fRange2
    rw [hw2, containsI_gen r (fun x => fRange1 x) wild (fun x _ => rfl) (by have := hr r hr'; omega)]
    have e : ((r.length : Int) != (c.length : Int)) = (r.length != c.length) := by
      rw [Bool.eq_iff_iff]; simp; omega
    unfold badRow
    rw [e]
    cases (r.length != c.length) <;> rfl
  rw [hci, hcl]
  have e1 : (decide ((c.length : Int) - 1 < 0) || decide ((c.length : Int) - 1 > 10)) = (decide (c.length = 0) || decide (c.length > 11)) := by
    rw [Bool.eq_iff_iff]; simp only [Bool.or_eq_true, decide_eq_true_eq]; omega
  rw [e1]
  have key : ((opt ((decide (c.length = 0) || decide (c.length > 11)) == false) (some (vs.any wild)) default).bind fun t30 =>
      (opt (((decide (c.length = 0) || decide (c.length > 11)) || t30) == false) (some (c.any (badRow c.length))) default).bind fun t35 =>
        (some (((decide (c.length = 0) || decide (c.length > 11)) || t30) || t35) : Option Bool)) = some (badT c vs) := by
    unfold badT
    cases (decide (c.length = 0) || decide (c.length > 11)) <;> cases vs.any wild <;> cases c.any (badRow c.length) <;> rfl
  have key2 : ∀ (g : Bool → Option (Int × Int × Int)), ((opt ((decide (c.length = 0) || decide (c.length > 11)) == false) (some (vs.any wild)) default).bind fun t30 =>
      (opt (((decide (c.length = 0) || decide (c.length > 11)) || t30) == false) (some (c.any (badRow c.length))) default).bind fun t35 =>
        g (((decide (c.length = 0) || decide (c.length > 11)) || t30) || t35)) = g (badT c vs) := by
    intro g
    unfold badT
    cases (decide (c.length = 0) || decide (c.length > 11)) <;> cases vs.any wild <;> cases c.any (badRow c.length) <;> rfl
  clear key
  refine Eq.trans (key2 (fun b => if b = true then _ else _)) ?_
  unfold rangeS
  by_cases hb : badT c vs = true
  · rw [if_pos hb, if_pos hb]
  · rw [if_neg hb, if_neg hb]
    obtain ⟨sq, l1, l11⟩ := bad_sq hb
    by_cases hk : (vs.length : Int) ≥ (c.length : Int) - 1
    · rw [if_pos (by simpa using hk), if_pos (by simpa using hk)]
    · rw [if_neg (by simpa using hk), if_neg (by simpa using hk), clone_is vs (by omega)]
      simp only [Option.bind_some]
      rw [rm_le (by simp; omega)]
      simp only [Option.bind_some]
      refine for_bind (vs.length + 1) (fun j => ((j : Int), hiF c vs j, loF c vs j)) (hiF c vs (vs.length + 1), loF c vs (vs.length + 1)) rfl ?_ ?_ ?_
      · intro j hj
        have hjl : j < (vs ++ [0]).length := by simpa using hj
        simp only
        rw [if_pos (by simp; omega), idx_lt hjl]
        simp only [Option.bind_some]
        have hv0 : (vs ++ [(0:Int)])[j] = valOf vs j := by
          unfold valOf
          rw [List.getD_eq_getElem?_getD, List.getElem?_eq_getElem hjl]; rfl
        rw [hv0]
        have hrow : (if ((j : Int) == (vs.length : Int)) = true then some ((c.length : Int) - 1) else some (j : Int)) = some ((rowOf c vs j : Nat) : Int) := by
          unfold rowOf
          by_cases h : j = vs.length
          · rw [if_pos (by simp; omega), if_pos h]; congr 1; omega
          · rw [if_neg (by simp; omega), if_neg h]
        rw [hrow]
        simp only [Option.bind_some]
        have hri : rowOf c vs j < c.length := by unfold rowOf; split <;> omega
        have hki : vs.length < c.length := by omega
        rw [(sq.idx hri).1, (sq.idx hki).1]
        simp only [Option.bind_some]
        rw [sq.idx2 hri hki, sq.idx2 hki hri]
        simp only [Option.bind_some]
        have a1 := loF_len c vs j
        have a2 := hiF_len c vs j
        have e2 : (if decide (at2 c (rowOf c vs j) vs.length < 1099511627776) = true then (rm ((loF c vs j).length + [IntKind.i64.wrap (valOf vs j - at2 c (rowOf c vs j) vs.length)].length)).bind fun _ => some (loF c vs j ++ [IntKind.i64.wrap (valOf vs j - at2 c (rowOf c vs j) vs.length)]) else some (loF c vs j)) = some (loF c vs (j + 1)) := by
          rw [loF_succ]
          by_cases h : at2 c (rowOf c vs j) vs.length < 1099511627776
          · rw [if_pos (by simpa using h), if_pos h, rm_le (by simp; omega)]; rfl
          · rw [if_neg (by simpa using h), if_neg h, List.append_nil]
        have e3 : (if decide (at2 c vs.length (rowOf c vs j) < 1099511627776) = true then (rm ((hiF c vs j).length + [IntKind.i64.wrap (valOf vs j + at2 c vs.length (rowOf c vs j))].length)).bind fun _ => some (hiF c vs j ++ [IntKind.i64.wrap (valOf vs j + at2 c vs.length (rowOf c vs j))]) else some (hiF c vs j)) = some (hiF c vs (j + 1)) := by
          rw [hiF_succ]
          by_cases h : at2 c vs.length (rowOf c vs j) < 1099511627776
          · rw [if_pos (by simpa using h), if_pos h, rm_le (by simp; omega)]; rfl
          · rw [if_neg (by simpa using h), if_neg h, List.append_nil]
        rw [e2]
        simp only [Option.bind_some]
        rw [e3]
        simp only [Option.bind_some]
        rw [w64_succ hj (by omega)]
      · simp only
        rw [if_neg (by simp)]
      · simp only
        have b1 : ∀ (l : List Int), l.length ≤ 1000000 → (if decide ((l.length : Int) > 0) = true then (fMax l).bind fun t99 => some t99 else some (-1099511627776)) = some (best imax (-1099511627776) l).2 := by
          intro l hl
          cases l with
          | nil => rfl
          | cons x xs => rw [if_pos (by simp), max_eq x xs (by simp at hl; omega), best_cons]; rfl
        have b2 : ∀ (l : List Int), l.length ≤ 1000000 → (if decide ((l.length : Int) > 0) = true then (fMin l).bind fun t99 => some t99 else some 1099511627776) = some (best imin 1099511627776 l).2 := by
          intro l hl
          cases l with
          | nil => rfl
          | cons x xs => rw [if_pos (by simp), min_eq x xs (by simp at hl; omega), best_cons]; rfl
        rw [b1 _ (by have := loF_len c vs (vs.length + 1); omega)]
        simp only [Option.bind_some]
        rw [b2 _ (by have := hiF_len c vs (vs.length + 1); omega)]
        simp only [Option.bind_some]
        unfold loB hiB
        split <;> rfl

end Go.Proofs.Ytjniiejgccdhiaa
