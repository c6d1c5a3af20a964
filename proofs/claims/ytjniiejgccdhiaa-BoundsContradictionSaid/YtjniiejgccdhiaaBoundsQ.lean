/- Package bounds: BoundsCloses holds of the Lean functions. No condition. -/
import Derived.Test.YtjniiejgccdhiaaBoundsP
namespace Go.Proofs.Ytjniiejgccdhiaa
open Go.Sim

theorem cycR_inner {m : Nat} {l : List SDiff} (hv : Valid m l) {many : Nat} (h2 : 2 ≤ many) (hm : many ≤ m) : ∀ (k i : Nat), i + k = l.length →
    tailrec (fun (s196 : Int) => ((if (decide (s196 < (l.length : Int))) = true then cycRBody m l (many : Int) s196 else (some (.inr (.inl ())))) : Option ((Int) ⊕ ((Unit) ⊕ (Int × List Int))))) (i : Int) =
      some (match scanS (cycleS (l.map (edN m)) many) k i with | some p => .inr (0, p) | none => .inl ()) := by
  have hlen := hv.len
  intro k
  induction k with
  | zero =>
    intro i hi
    rw [tailrec_eq]
    rw [if_neg (by simp; omega)]
    rfl
  | succ k ih =>
    intro i hi
    rw [tailrec_eq]
    rw [if_pos (by simp; omega), cycR_step hv (by omega) h2 hm]
    unfold scanS
    cases h : (cycleS (l.map (edN m)) many i).isEmpty with
    | true =>
      simp only [if_true]
      exact ih (i + 1) (by omega)
    | false => simp only [Bool.false_eq_true, if_false]

theorem cycR_is (n : Int) (l : List SDiff) : fCycleR n l = some (cycS n l) := by
  unfold fCycleR cycS
  rw [validR14_is]
  simp only [Option.bind_some]
  by_cases h : validS n l = 0
  · obtain ⟨m, rfl, hv⟩ := valid_of h
    have hm11 := hv.m11
    have hm1 := hv.m1
    have hn : ¬ (validS ((m : Int) - 1) l ≠ 0) := fun g => g h
    have hn' : ¬ ((validS ((m : Int) - 1) l != 0) = true) := by simp [h]
    rw [if_neg hn, if_neg hn', show ((m : Int) - 1 + 1).toNat = m by omega, show ((m : Int) - 1).toNat = m - 1 by omega, m_wrap hm11]
    have key : ∀ (k many : Nat), 2 ≤ many → many + k = m + 1 → tailrec (fun (s8 : Int) => ((if (decide (s8 ≤ (m : Int))) = true then (tailrec (fun (s196 : Int) => ((if (decide (s196 < (l.length : Int))) = true then cycRBody m l s8 s196 else (some (.inr (.inl ())))) : Option ((Int) ⊕ ((Unit) ⊕ (Int × List Int))))) (0:Int)).bind fun (e197 : (Unit) ⊕ (Int × List Int)) => (match e197 with | .inl p281 => (some (.inl (IntKind.i64.wrap (s8 + (1:Int))))) | .inr p282 => (some (.inr (.inr (p282.1, p282.2))))) else (some (.inr (.inl ())))) : Option ((Int) ⊕ ((Unit) ⊕ (Int × List Int))))) (many : Int) =
        some (match scan2 (cycleS (l.map (edN m))) l.length k many with | some p => .inr (0, p) | none => .inl ()) := by
      intro k
      induction k with
      | zero =>
        intro many h2 hk
        rw [tailrec_eq]
        rw [if_neg (by simp; omega)]
        rfl
      | succ k ih =>
        intro many h2 hk
        rw [tailrec_eq]
        have hin := cycR_inner hv h2 (show many ≤ m by omega) l.length 0 (by omega)
        rw [show ((0 : Nat) : Int) = 0 from rfl] at hin
        rw [if_pos (by simp; omega), hin]
        simp only [Option.bind_some]
        unfold scan2
        cases hs : scanS (cycleS (l.map (edN m)) many) l.length 0 with
        | some p => rfl
        | none =>
          simp only
          rw [w64_succ (n := m + 1) (k := many) (by omega) (by omega)]
          exact ih (many + 1) (by omega) (by omega)
    have h2 := key (m - 1) 2 (by omega) (by omega)
    rw [show ((2 : Nat) : Int) = 2 from rfl] at h2
    unfold cycRBody at h2
    refine (congrArg (Option.bind · _) h2).trans ?_
    simp only [Option.bind_some]
    cases scan2 (cycleS (l.map (edN m))) l.length (m - 1) 2 <;> rfl
  · rw [if_pos h]
    rw [if_pos (by simpa using h)]

theorem scanS_some {f : Nat → List Int} {p : List Int} : ∀ k i, scanS f k i = some p → ∃ j, i ≤ j ∧ j < i + k ∧ p = f j ∧ p.isEmpty = false ∧ ∀ q, i ≤ q → q < j → (f q).isEmpty = true := by
  intro k
  induction k with
  | zero => intro i h; cases h
  | succ k ih =>
    intro i h
    unfold scanS at h
    split at h
    · next he =>
      obtain ⟨j, h1, h2, h3, h4, h5⟩ := ih _ h
      refine ⟨j, by omega, by omega, h3, h4, fun q hq hqj => ?_⟩
      by_cases hqi : q = i
      · rw [hqi]; exact he
      · exact h5 q (by omega) hqj
    · next he =>
      cases h
      exact ⟨i, by omega, by omega, rfl, by simpa using he, fun q _ _ => by omega⟩
theorem scanS_none {f : Nat → List Int} : ∀ k i, scanS f k i = none → ∀ q, i ≤ q → q < i + k → (f q).isEmpty = true := by
  intro k
  induction k with
  | zero => intro i _ q _ _; omega
  | succ k ih =>
    intro i h q hq hqk
    unfold scanS at h
    split at h
    · next he =>
      by_cases hqi : q = i
      · rw [hqi]; exact he
      · exact ih _ h q (by omega) (by omega)
    · cases h
theorem scan2_some {f : Nat → Nat → List Int} {len : Nat} {p : List Int} : ∀ k many, scan2 f len k many = some p → ∃ q i, many ≤ q ∧ q < many + k ∧ i < len ∧ p = f q i ∧ p.isEmpty = false ∧ (∀ j, j < i → (f q j).isEmpty = true) ∧ ∀ q', many ≤ q' → q' < q → ∀ j, j < len → (f q' j).isEmpty = true := by
  intro k
  induction k with
  | zero => intro many h; cases h
  | succ k ih =>
    intro many h
    unfold scan2 at h
    split at h
    · next p' hs =>
      cases h
      obtain ⟨j, _, h2, h3, h4, h5⟩ := scanS_some _ _ hs
      exact ⟨many, j, by omega, by omega, by omega, h3, h4, fun q hq => h5 q (by omega) hq, fun q' h1 h2 => by omega⟩
    · next hs =>
      obtain ⟨q, i, h1, h2, h3, h4, h5, h6, h7⟩ := ih _ h
      refine ⟨q, i, by omega, by omega, h3, h4, h5, h6, fun q' hq' hq j hj => ?_⟩
      by_cases hqm : q' = many
      · rw [hqm]; exact scanS_none _ _ hs j (by omega) (by omega)
      · exact h7 q' (by omega) hq j hj
theorem scan2_none {f : Nat → Nat → List Int} {len : Nat} : ∀ k many, scan2 f len k many = none → ∀ q, many ≤ q → q < many + k → ∀ j, j < len → (f q j).isEmpty = true := by
  intro k
  induction k with
  | zero => intro many _ q _ _; omega
  | succ k ih =>
    intro many h q hq hqk j hj
    unfold scan2 at h
    split at h
    · cases h
    · next hs =>
      by_cases hqm : q = many
      · rw [hqm]; exact scanS_none _ _ hs j (by omega) (by omega)
      · exact ih _ h q (by omega) (by omega) j hj
theorem cycleS_len {E : List Ed} {many first : Nat} : (cycleS E many first).length ≤ many + 1 := by
  unfold cycleS
  split
  · have := (outS_len (E := E) (Ly := lay (E.getD first ⟨0, 0, 0⟩).a (E.drop (first + 1))) (first := first) (many - 1) ((E.getD first ⟨0, 0, 0⟩).b, [(first : Int)], (E.getD first ⟨0, 0, 0⟩).w)).2
    simp only [List.length_cons, List.length_nil] at this
    omega
  · simp
theorem cycS_len (n : Int) (l : List SDiff) : (cycS n l).1.length ≤ 12 := by
  unfold cycS
  by_cases h : validS n l = 0
  · obtain ⟨m, rfl, hv⟩ := valid_of h
    have hm11 := hv.m11
    rw [if_neg (by simpa using h)]
    split
    · next p hp =>
      obtain ⟨q, i, h1, h2, _, h4, _⟩ := scan2_some _ _ hp
      rw [h4]
      have := cycleS_len (E := l.map (edN ((m : Int) - 1 + 1).toNat)) (many := q) (first := i)
      simp only
      omega
    · simp
  · rw [if_pos h]; simp

theorem sameTables_self (a : List (List Int)) (ha : a.length < 1000000) (hr : ∀ r ∈ a, r.length < 1000000) : fSameTables a a = some true := by
  unfold fSameTables
  rw [if_neg (by simp)]
  refine for_bind a.length (fun k => (k : Int)) (.inl ()) rfl ?_ (by rw [if_neg (by simp)]) rfl
  intro k hk
  rw [if_pos (by simpa using hk), idx_lt hk]
  simp only [Option.bind_some]
  rw [sameInts_is _ _ (hr _ (List.getElem_mem hk))]
  simp only [Option.bind_some, decide_true, Bool.not_true, Bool.false_eq_true, if_false]
  rw [w64_succ hk (by omega)]

theorem closes_true (l : List Int) (a h b n : Int) (hl : ∀ x ∈ l, I64 x) (ha : I64 a) (hh : I64 h) (hb : I64 b) (hn : I64 n) : fBoundsCloses l a h b n = some true := by
  unfold fBoundsCloses
  obtain ⟨n0, d, hm, _, _, hd, _⟩ := made14_is l hl
  rw [hm]
  simp only [Option.bind_some]
  obtain ⟨p, hp, hpl⟩ := bent_is d a h b (by omega) ha hh hb
  rw [hp]
  simp only [Option.bind_some]
  obtain ⟨p2, hp2, hpl2⟩ := bent_is p b (IntKind.i64.wrap (Int.tdiv h 6)) a (by omega) hb (w64_range _) ha
  rw [hp2]
  simp only [Option.bind_some]
  obtain ⟨c, hc, _, _⟩ := around_is n 13 hn (by omega)
  rw [hc]
  simp only [Option.bind_some]
  refine for_bind 4 (fun k => (k : Int)) (.inl ()) rfl ?_ (by rw [if_neg (by simp)]) ?_
  · intro k hk
    rw [if_pos (by simp; omega)]
    obtain ⟨t, hi, ht⟩ : ∃ t, idx [d, p, p2, ([] : List SDiff)] (k : Int) = some t ∧ t.length < 1000000 := by
      match k, hk with
      | 0, _ => exact ⟨d, rfl, by omega⟩
      | 1, _ => exact ⟨p, rfl, by omega⟩
      | 2, _ => exact ⟨p2, rfl, by omega⟩
      | 3, _ => exact ⟨[], rfl, by simp⟩
    rw [hi]
    refine for_bind 3 (fun k => (k : Int)) (.inl ()) rfl ?_ (by rw [if_neg (by simp)]) ?_
    · intro j hj
      rw [if_pos (by simp; omega)]
      obtain ⟨y, hy⟩ : ∃ y, idx [n0, IntKind.i64.wrap (c - 1), n] (j : Int) = some y := by
        match j, hj with
        | 0, _ => exact ⟨_, rfl⟩
        | 1, _ => exact ⟨_, rfl⟩
        | 2, _ => exact ⟨_, rfl⟩
      rw [hy]
      simp only [Option.bind_some]
      rw [own_is t ht]
      simp only [Option.bind_some]
      rw [close_is, closeR_is, cyc_is, cycR_is]
      simp only [Option.bind_some]
      have hsh := closeS_shape y t
      have hst : fSameTables (closeS y t).1 (closeS y t).1 = some true := by
        rcases hsh with e | ⟨m, G, h1, h2, e⟩
        · rw [e]; exact sameTables_self _ (by simp) (fun r hr => by cases hr)
        · rw [e]
          refine sameTables_self _ (by rw [tab_len]; omega) fun r hr => ?_
          obtain ⟨k, _, rfl⟩ := List.mem_map.1 hr
          rw [rowL_len]; omega
      rw [hst, sameInts_is _ _ (by have := cycS_len y t; omega)]
      simp only [bne_self_eq_false, BEq.rfl, opt_true, Option.bind_some, decide_true, Bool.not_true, Bool.or_false, Bool.false_eq_true, if_false]
      rw [w64_succ hj (by omega)]
    · simp only
      rw [w64_succ hk (by omega)]
  · simp only
    rw [lives14_is]
    rfl

end Go.Proofs.Ytjniiejgccdhiaa
