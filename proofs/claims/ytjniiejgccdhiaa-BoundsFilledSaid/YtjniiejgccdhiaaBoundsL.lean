/- Package bounds: filling and holding. No condition. -/
import Derived.Test.YtjniiejgccdhiaaBoundsK
import Derived.Test.YtjniiejgccdhiaaBenI
namespace Go.Proofs.Ytjniiejgccdhiaa
open Go.Sim

theorem own_is (l : List SDiff) (hl : l.length < 1000000) : fown14 l = some l := by
  unfold fown14
  refine for_bind l.length (fun k => ((k : Int), l.take k)) l (by simp) ?_ ?_ rfl
  · intro k hk
    rw [if_pos (by simpa using hk)]
    simp only [idx_lt hk, Option.bind_some]
    rw [rm_le (by simp; omega)]
    simp only [Option.bind_some]
    rw [w64_succ hk (by omega), List.take_succ_eq_append_getElem hk]
  · rw [if_neg (by simp), List.take_length]

/-! Holding -/

def vat (vs : List Int) (i : Int) : Int := if i < 0 then 0 else vs.getD i.toNat 0
def dout (vs : List Int) (d : SDiff) : Bool := decide (imin d.A d.B < -1) || decide (imax d.A d.B ≥ (vs.length : Int))
def breaks (vs : List Int) (d : SDiff) : Bool := dout vs d || decide (vat vs d.A > IntKind.i64.wrap (vat vs d.B + d.N))

theorem vat_nat {vs : List Int} {i : Int} (h : ¬ i < 0) (h2 : i < vs.length) : idx vs i = some (vat vs i) := by
  unfold vat
  rw [if_neg h]
  obtain ⟨k, rfl⟩ : ∃ k : Nat, i = (k : Int) := ⟨i.toNat, by omega⟩
  rw [getD_nat vs k (by omega) 0]
  rfl
theorem holds1_is {vs : List Int} {i : Int} (h2 : i < vs.length) : fHolds1 i vs = some (vat vs i) := by
  unfold fHolds1
  by_cases h : i < 0
  · rw [if_pos (by simpa using h)]; unfold vat; rw [if_pos h]
  · rw [if_neg (by simpa using h), vat_nat h h2]; rfl
theorem dout_false {vs : List Int} {d : SDiff} (h : dout vs d = false) : (-1 ≤ d.A ∧ d.A < vs.length) ∧ (-1 ≤ d.B ∧ d.B < vs.length) := by
  unfold dout imin imax at h
  simp only [Bool.or_eq_false_iff, decide_eq_false_iff_not] at h
  obtain ⟨h1, h2⟩ := h
  split at h1 <;> split at h2 <;> omega
theorem dout_true {vs : List Int} {d : SDiff} : dout vs d = ((((decide (d.A < -1)) || (decide (d.A ≥ (vs.length : Int)))) || (decide (d.B < -1))) || (decide (d.B ≥ (vs.length : Int)))) := by
  unfold dout imin imax
  rw [Bool.eq_iff_iff]
  simp only [Bool.or_eq_true, decide_eq_true_eq]
  split <;> split <;> omega
theorem holds2_is (d : SDiff) (vs : List Int) : fHolds2 d vs vs = some (breaks vs d) := by
  unfold fHolds2 breaks
  cases h : dout vs d with
  | true =>
    have h' : (decide (imin d.A d.B < -1) || decide (imax d.A d.B ≥ (vs.length : Int))) = true := h
    rw [h']
    rfl
  | false =>
    have h' : (decide (imin d.A d.B < -1) || decide (imax d.A d.B ≥ (vs.length : Int))) = false := h
    obtain ⟨h1, h2⟩ := dout_false h
    rw [h', show (false == false) = true from rfl, opt_true, opt_true, holds1_is h1.2, holds1_is h2.2]
    rfl
theorem holds_is (l : List SDiff) (vs : List Int) (hl : l.length < 1000000) : fHolds l vs = some (firstIdx l (breaks vs)) := by
  unfold fHolds
  rw [indexD_gen l _ (breaks vs) (fun x _ => holds2_is x vs) (by omega)]
  rfl
theorem keeps_is (d : SDiff) (vs : List Int) : fKeeps d vs = some (!breaks vs d) := by
  unfold fKeeps breaks
  by_cases h : dout vs d = true
  · rw [h, if_pos (by rw [← dout_true]; exact h)]; rfl
  · have h' : dout vs d = false := by simpa using h
    obtain ⟨h1, h2⟩ := dout_false h'
    rw [h', if_neg (by rw [← dout_true]; exact h)]
    have e1 : (if (decide (d.A ≥ (0:Int))) = true then (idx vs d.A).bind fun t35 => (some t35) else (some (0:Int))) = some (vat vs d.A) := by
      by_cases h : d.A < 0
      · rw [if_neg (by simp; omega)]; unfold vat; rw [if_pos h]
      · rw [if_pos (by simp; omega), vat_nat h h1.2]; rfl
    have e2 : (if (decide (d.B ≥ (0:Int))) = true then (idx vs d.B).bind fun t43 => (some t43) else (some (0:Int))) = some (vat vs d.B) := by
      by_cases h : d.B < 0
      · rw [if_neg (by simp; omega)]; unfold vat; rw [if_pos h]
      · rw [if_pos (by simp; omega), vat_nat h h2.2]; rfl
    rw [e1, e2]
    simp only [Option.bind_some, Bool.false_or]
    congr 1
    rw [Bool.eq_iff_iff]
    simp
theorem holdsR_is (l : List SDiff) (vs : List Int) (hl : l.length < 1000000) : fHoldsR l vs = some (firstIdx l (breaks vs)) := by
  unfold fHoldsR
  have h := index_loop l (fun x => (fKeeps x vs).bind fun b => some (!b)) (breaks vs) (fun x _ => by rw [keeps_is]; simp) (by omega)
  rw [← h]
  simp only [Option.bind_assoc, Option.bind_some]
  rfl

/-! Filling -/

theorem best_ind {op : Int → Int → Int} (hop : ∀ a b, op a b = a ∨ op a b = b) (P : Int → Prop) {d : Int} (h0 : P d) (l : List Int) (h : ∀ x ∈ l, P x) : P (best op d l).2 := by
  have key : ∀ (l : List Int) (s : Bool × Int), P s.2 → (∀ x ∈ l, P x) → P (l.foldl (fun s y => (true, if s.1 = true then op s.2 y else y)) s).2 := by
    intro l
    induction l with
    | nil => intro s hs _; exact hs
    | cons y l ih =>
      intro s hs h
      rw [List.foldl_cons]
      refine ih _ ?_ fun x hx => h x (List.mem_cons_of_mem _ hx)
      have hy := h y (List.mem_cons_self ..)
      simp only
      split
      · rcases hop s.2 y with e | e <;> rw [e] <;> assumption
      · exact hy
  exact key l (false, d) h0 h

theorem imax_or (a b : Int) : imax a b = a ∨ imax a b = b := by unfold imax; split <;> simp
theorem imin_or (a b : Int) : imin a b = a ∨ imin a b = b := by unfold imin; split <;> simp

theorem wild_not {x : Int} : wild x = false ↔ -1099511627776 ≤ x ∧ x ≤ 1099511627776 := by
  unfold wild
  simp only [Bool.or_eq_false_iff, decide_eq_false_iff_not]
  omega
theorem badT_not {c : List (List Int)} {vs : List Int} (h : ¬ badT c vs = true) : (∀ x ∈ vs, wild x = false) ∧ ∀ r ∈ c, r.length = c.length ∧ ∀ x ∈ r, wild x = false := by
  have h' : badT c vs = false := by simpa using h
  unfold badT at h'
  simp only [Bool.or_eq_false_iff] at h'
  obtain ⟨_, h1, h2⟩ := h'
  refine ⟨fun x hx => by simpa using List.any_eq_false.1 h1 x hx, fun r hr => ?_⟩
  have := List.any_eq_false.1 h2 r hr
  unfold badRow at this
  simp only [Bool.or_eq_true, not_or, Bool.not_eq_true, List.any_eq_false] at this
  exact ⟨by simpa using this.1, fun x hx => by simpa using this.2 x hx⟩
theorem at2_bd {c : List (List Int)} {vs : List Int} (h : ¬ badT c vs = true) (i k : Nat) : -1099511627776 ≤ at2 c i k ∧ at2 c i k ≤ 1099511627776 := by
  unfold at2
  rw [List.getD_eq_getElem?_getD, List.getD_eq_getElem?_getD]
  cases hi : c[i]? with
  | none => simp
  | some r =>
    simp only [Option.getD_some]
    cases hk : r[k]? with
    | none => simp
    | some x => exact wild_not.1 (((badT_not h).2 r (List.mem_of_getElem? hi)).2 x (List.mem_of_getElem? hk))
theorem valOf_bd {c : List (List Int)} {vs : List Int} (h : ¬ badT c vs = true) (j : Nat) : -1099511627776 ≤ valOf vs j ∧ valOf vs j ≤ 1099511627776 := by
  unfold valOf
  rw [List.getD_eq_getElem?_getD]
  cases hj : (vs ++ [0])[j]? with
  | none => simp
  | some x =>
    have := List.mem_of_getElem? hj
    rcases List.mem_append.1 this with hx | hx
    · exact wild_not.1 ((badT_not h).1 x hx)
    · obtain rfl := List.mem_singleton.1 hx; simp
theorem loF_mem {c : List (List Int)} {vs : List Int} {M : Nat} {x : Int} (h : x ∈ loF c vs M) : ∃ j, j < M ∧ at2 c (rowOf c vs j) vs.length < 1099511627776 ∧ x = IntKind.i64.wrap (valOf vs j - at2 c (rowOf c vs j) vs.length) := by
  induction M with
  | zero => unfold loF at h; simp at h
  | succ M ih =>
    rw [loF_succ] at h
    rcases List.mem_append.1 h with h | h
    · obtain ⟨j, hj, r⟩ := ih h
      exact ⟨j, by omega, r⟩
    · split at h
      · exact ⟨M, by omega, by assumption, List.mem_singleton.1 h⟩
      · cases h
theorem hiF_mem {c : List (List Int)} {vs : List Int} {M : Nat} {x : Int} (h : x ∈ hiF c vs M) : ∃ j, j < M ∧ at2 c vs.length (rowOf c vs j) < 1099511627776 ∧ x = IntKind.i64.wrap (valOf vs j + at2 c vs.length (rowOf c vs j)) := by
  induction M with
  | zero => unfold hiF at h; simp at h
  | succ M ih =>
    rw [hiF_succ] at h
    rcases List.mem_append.1 h with h | h
    · obtain ⟨j, hj, r⟩ := ih h
      exact ⟨j, by omega, r⟩
    · split at h
      · exact ⟨M, by omega, by assumption, List.mem_singleton.1 h⟩
      · cases h
theorem rangeS_ok {c : List (List Int)} {vs : List Int} (h : (rangeS c vs).2.2 = 0) : ¬ badT c vs = true ∧ vs.length + 1 < c.length ∧ (rangeS c vs).1 = (loB c vs (vs.length + 1)).2 ∧ (rangeS c vs).2.1 = (hiB c vs (vs.length + 1)).2 ∧ (loB c vs (vs.length + 1)).2 ≤ (hiB c vs (vs.length + 1)).2 := by
  unfold rangeS at h ⊢
  by_cases h1 : badT c vs = true
  · rw [if_pos h1] at h; simp at h
  · rw [if_neg h1] at h ⊢
    by_cases h2 : decide ((vs.length : Int) ≥ (c.length : Int) - 1) = true
    · rw [if_pos h2] at h; simp at h
    · rw [if_neg h2] at h ⊢
      by_cases h3 : decide ((loB c vs (vs.length + 1)).2 > (hiB c vs (vs.length + 1)).2) = true
      · rw [if_pos h3] at h; simp at h
      · rw [if_neg h3]
        simp only [decide_eq_true_eq] at h2 h3
        exact ⟨h1, by omega, rfl, rfl, by omega⟩
theorem rangeS_bd {c : List (List Int)} {vs : List Int} (h : (rangeS c vs).2.2 = 0) : (rangeS c vs).1 ≤ (rangeS c vs).2.1 ∧ -2199023255552 ≤ (rangeS c vs).1 ∧ (rangeS c vs).2.1 ≤ 2199023255552 := by
  obtain ⟨hb, _, e1, e2, hle⟩ := rangeS_ok h
  rw [e1, e2]
  refine ⟨hle, ?_, ?_⟩
  · refine best_ind imax_or (fun x => -2199023255552 ≤ x) (by decide) _ fun x hx => ?_
    obtain ⟨j, _, _, rfl⟩ := loF_mem hx
    have h1 := valOf_bd hb j
    have h2 := at2_bd hb (rowOf c vs j) vs.length
    rw [w64 (by omega) (by omega)]; omega
  · refine best_ind imin_or (fun x => x ≤ 2199023255552) (by decide) _ fun x hx => ?_
    obtain ⟨j, _, _, rfl⟩ := hiF_mem hx
    have h1 := valOf_bd hb j
    have h2 := at2_bd hb vs.length (rowOf c vs j)
    rw [w64 (by omega) (by omega)]; omega

def stopB (r : Int × Int × Int) : Bool := ((r.2.2 != 0) || (r.1 == (-1099511627776:Int))) || (r.2.1 == (1099511627776:Int))
def pickS (r : Int × Int × Int) (p : Int) : Int := IntKind.i64.wrap (r.1 + Int.tmod (IntKind.i64.wrap (Int.tmod p (IntKind.i64.wrap (IntKind.i64.wrap (r.2.1 - r.1) + 1)) + IntKind.i64.wrap (IntKind.i64.wrap (r.2.1 - r.1) + 1))) (IntKind.i64.wrap (IntKind.i64.wrap (r.2.1 - r.1) + 1)))
def fillE (c : List (List Int)) (picks : List Int) : Nat → List Int → (List Int) ⊕ ((List Int) × Int)
  | 0, vs => .inl vs
  | k + 1, vs => if stopB (rangeS c vs) = true then .inr ([], 5) else fillE c picks k (vs ++ [pickS (rangeS c vs) (picks.getD vs.length 0)])
def fillS (n : Int) (l : List SDiff) (picks : List Int) : List Int × Int :=
  if (closeS n l).2 ≠ 0 then ([], (closeS n l).2) else match fillE (closeS n l).1 picks n.toNat [] with | .inl p => (p, 0) | .inr p => p

theorem fill_loop (rng : List (List Int) → List Int → Option (Int × Int × Int)) (c : List (List Int)) (picks : List Int) (n : Int) (hn : n ≤ 1000) (hr : ∀ vs, vs.length < 1000000 → rng c vs = some (rangeS c vs)) :
    ∀ (k : Nat) (vs : List Int), vs.length + k = n.toNat → tailrec (fun (s10 : Int × List Int) => ((if (decide (s10.1 < n)) = true then (rng c s10.2).bind fun t33 => (if (((t33.2.2 != (0:Int)) || (t33.1 == (-1099511627776:Int))) || (t33.2.1 == (1099511627776:Int))) = true then (some (.inr (.inr (([] : List Int), (5:Int))))) else ((if (decide (s10.1 < (picks.length : Int))) = true then (idx picks s10.1).bind fun t57 => (some t57) else (some (0:Int)))).bind fun (p45 : Int) => (nz (IntKind.i64.wrap ((IntKind.i64.wrap (t33.2.1 - t33.1)) + (1:Int)))).bind fun _ => (nz (IntKind.i64.wrap ((IntKind.i64.wrap (t33.2.1 - t33.1)) + (1:Int)))).bind fun _ => (rm (s10.2.length + [(IntKind.i64.wrap (t33.1 + (Int.tmod (IntKind.i64.wrap ((Int.tmod p45 (IntKind.i64.wrap ((IntKind.i64.wrap (t33.2.1 - t33.1)) + (1:Int)))) + (IntKind.i64.wrap ((IntKind.i64.wrap (t33.2.1 - t33.1)) + (1:Int))))) (IntKind.i64.wrap ((IntKind.i64.wrap (t33.2.1 - t33.1)) + (1:Int))))))].length)).bind fun _ => (some (.inl ((IntKind.i64.wrap (s10.1 + (1:Int))), (s10.2 ++ [(IntKind.i64.wrap (t33.1 + (Int.tmod (IntKind.i64.wrap ((Int.tmod p45 (IntKind.i64.wrap ((IntKind.i64.wrap (t33.2.1 - t33.1)) + (1:Int)))) + (IntKind.i64.wrap ((IntKind.i64.wrap (t33.2.1 - t33.1)) + (1:Int))))) (IntKind.i64.wrap ((IntKind.i64.wrap (t33.2.1 - t33.1)) + (1:Int))))))]))))) else (some (.inr (.inl s10.2)))) : Option ((Int × List Int) ⊕ ((List Int) ⊕ ((List Int) × Int))))) ((vs.length : Int), vs) = some (fillE c picks k vs) := by
  intro k
  induction k with
  | zero =>
    intro vs hk
    rw [tailrec_eq]
    simp only
    rw [if_neg (by simp; omega)]
    rfl
  | succ k ih =>
    intro vs hk
    rw [tailrec_eq]
    simp only
    rw [if_pos (by simp; omega), hr vs (by omega)]
    simp only [Option.bind_some]
    unfold fillE
    by_cases hs : stopB (rangeS c vs) = true
    · have hs' : ((((rangeS c vs).2.2 != (0:Int)) || ((rangeS c vs).1 == (-1099511627776:Int))) || ((rangeS c vs).2.1 == (1099511627776:Int))) = true := hs
      rw [if_pos hs, if_pos hs']
    · have hs' : ¬ ((((rangeS c vs).2.2 != (0:Int)) || ((rangeS c vs).1 == (-1099511627776:Int))) || ((rangeS c vs).2.1 == (1099511627776:Int))) = true := hs
      rw [if_neg hs, if_neg hs']
      have hp : (if (decide ((vs.length : Int) < (picks.length : Int))) = true then (idx picks (vs.length : Int)).bind fun t57 => (some t57) else (some (0:Int))) = some (picks.getD vs.length 0) := by
        by_cases h : vs.length < picks.length
        · rw [if_pos (by simpa using h), getD_nat picks vs.length h 0]; rfl
        · rw [if_neg (by simpa using h), List.getD_eq_getElem?_getD, List.getElem?_eq_none (by omega)]; rfl
      rw [hp]
      simp only [Option.bind_some]
      have h0 : (rangeS c vs).2.2 = 0 := by
        unfold stopB at hs
        simp only [Bool.or_eq_true, not_or] at hs
        simpa using hs.1.1
      obtain ⟨b1, b2, b3⟩ := rangeS_bd h0
      have hw : IntKind.i64.wrap (IntKind.i64.wrap ((rangeS c vs).2.1 - (rangeS c vs).1) + 1) ≠ 0 := by
        rw [w64 (n := (rangeS c vs).2.1 - (rangeS c vs).1) (by omega) (by omega), w64 (by omega) (by omega)]
        omega
      rw [nz_of hw]
      simp only [Option.bind_some]
      rw [rm_le (by simp; omega)]
      simp only [Option.bind_some]
      have e : IntKind.i64.wrap ((vs.length : Int) + 1) = ((vs ++ [pickS (rangeS c vs) (picks.getD vs.length 0)]).length : Int) := by
        rw [w64 (by omega) (by omega)]; simp
      rw [e]
      exact ih (vs ++ [pickS (rangeS c vs) (picks.getD vs.length 0)]) (by simp; omega)

theorem closeS_ok {n : Int} {l : List SDiff} (h : (closeS n l).2 = 0) : ∃ m : Nat, n = (m : Int) - 1 ∧ Valid m l ∧ validS n l = 0 ∧ negB m (tP m l) = false ∧ (closeS n l).1 = tab m (tP m l) := by
  unfold closeS at h ⊢
  by_cases hv : validS n l = 0
  · obtain ⟨m, rfl, hm⟩ := valid_of hv
    have e : ((m : Int) - 1 + 1).toNat = m := by omega
    rw [if_neg (by simpa using hv), e] at h ⊢
    by_cases hn : negB m (tP m l) = true
    · rw [if_pos hn] at h; simp at h
    · rw [if_neg hn]
      exact ⟨m, rfl, hm, hv, by simpa using hn, rfl⟩
  · rw [if_pos hv] at h
    exact (hv h).elim

theorem fill_is (n : Int) (l : List SDiff) (picks : List Int) : fFill n l picks = some (fillS n l picks) := by
  unfold fFill fillS
  rw [close_is]
  simp only [Option.bind_some]
  by_cases h : (closeS n l).2 = 0
  · rw [if_neg (by simpa using h), if_neg (by simpa using h)]
    obtain ⟨m, rfl, hm, _, _, ht⟩ := closeS_ok h
    have hm11 := hm.m11
    have hrow : ∀ r ∈ (closeS ((m : Int) - 1) l).1, r.length < 1000000 := by
      rw [ht]
      intro r hr
      obtain ⟨k, _, rfl⟩ := List.mem_map.1 hr
      rw [rowL_len]; omega
    have hloop := fill_loop fRange (closeS ((m : Int) - 1) l).1 picks ((m : Int) - 1) (by omega) (fun vs hvs => range_is _ vs (by rw [ht, tab_len]; omega) hvs hrow) ((m : Int) - 1).toNat [] (by simp)
    rw [show (([] : List Int).length : Int) = 0 from rfl] at hloop
    rw [hloop]
    simp only [Option.bind_some]
    cases fillE (closeS ((m : Int) - 1) l).1 picks ((m : Int) - 1).toNat [] <;> rfl
  · rw [if_pos (by simpa using h), if_pos h]
theorem fillR_is (n : Int) (l : List SDiff) (picks : List Int) : fFillR n l picks = some (fillS n l picks) := by
  unfold fFillR fillS
  rw [closeR_is]
  simp only [Option.bind_some]
  by_cases h : (closeS n l).2 = 0
  · rw [if_neg (by simpa using h), if_neg (by simpa using h)]
    obtain ⟨m, rfl, hm, _, _, ht⟩ := closeS_ok h
    have hm11 := hm.m11
    have hloop := fill_loop fRangeR (closeS ((m : Int) - 1) l).1 picks ((m : Int) - 1) (by omega) (fun vs hvs => rangeR_is _ vs (by rw [ht, tab_len]; omega) hvs) ((m : Int) - 1).toNat [] (by simp)
    rw [show (([] : List Int).length : Int) = 0 from rfl] at hloop
    rw [hloop]
    simp only [Option.bind_some]
    cases fillE (closeS ((m : Int) - 1) l).1 picks ((m : Int) - 1).toNat [] <;> rfl
  · rw [if_pos (by simpa using h), if_pos h]

theorem fillE_len {c : List (List Int)} {picks : List Int} : ∀ (k : Nat) (vs p : List Int), fillE c picks k vs = .inl p → p.length = vs.length + k := by
  intro k
  induction k with
  | zero => intro vs p h; unfold fillE at h; cases h; rfl
  | succ k ih =>
    intro vs p h
    unfold fillE at h
    split at h
    · cases h
    · have := ih _ _ h
      simp at this; omega
theorem fillE_err {c : List (List Int)} {picks : List Int} : ∀ (k : Nat) (vs : List Int) (p : List Int × Int), fillE c picks k vs = .inr p → p = ([], 5) := by
  intro k
  induction k with
  | zero => intro vs p h; unfold fillE at h; cases h
  | succ k ih =>
    intro vs p h
    unfold fillE at h
    split at h
    · cases h; rfl
    · exact ih _ _ h
theorem fillS_len (n : Int) (l : List SDiff) (picks : List Int) : (fillS n l picks).1.length ≤ 10 := by
  unfold fillS
  by_cases h : (closeS n l).2 = 0
  · rw [if_neg (by simpa using h)]
    obtain ⟨m, rfl, hm, _, _, _⟩ := closeS_ok h
    have := hm.m11
    cases hf : fillE (closeS ((m : Int) - 1) l).1 picks ((m : Int) - 1).toNat [] with
    | inl p => have := fillE_len _ _ _ hf; simp at this ⊢; omega
    | inr p => rw [fillE_err _ _ _ hf]; simp
  · rw [if_pos h]; simp

end Go.Proofs.Ytjniiejgccdhiaa
