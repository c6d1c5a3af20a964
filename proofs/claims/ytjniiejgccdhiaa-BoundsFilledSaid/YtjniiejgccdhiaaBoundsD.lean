/- Package bounds: the reference's Range. No condition. -/
import Derived.Test.YtjniiejgccdhiaaBoundsC
namespace Go.Proofs.Ytjniiejgccdhiaa
open Go.Sim

theorem getD_nat {α : Type} (xs : List α) (k : Nat) (h : k < xs.length) (d : α) : idx xs (k : Int) = some (xs.getD k d) := by
  rw [idx_lt h, List.getD_eq_getElem?_getD, List.getElem?_eq_getElem h]; rfl
theorem any_getD {α : Type} (xs : List α) (p : α → Bool) (d : α) : ((∃ k, k < xs.length ∧ p (xs.getD k d) = true) ↔ xs.any p = true) := by
  rw [List.any_eq_true]
  constructor
  · rintro ⟨k, hk, hp⟩
    rw [List.getD_eq_getElem?_getD, List.getElem?_eq_getElem hk] at hp
    exact ⟨_, List.getElem_mem hk, hp⟩
  · rintro ⟨x, hx, hp⟩
    obtain ⟨k, hk, rfl⟩ := List.getElem_of_mem hx
    exact ⟨k, hk, by rw [List.getD_eq_getElem?_getD, List.getElem?_eq_getElem hk]; exact hp⟩

theorem rangeR_is (c : List (List Int)) (vs : List Int) (hc : c.length < 1000000) (hv : vs.length < 1000000) : fRangeR c vs = some (rangeS c vs) := by
  unfold fRangeR
  have hw : IntKind.i64.wrap ((c.length : Int) - 1) = (c.length : Int) - 1 := w64 (by omega) (by omega)
  have hw2 : IntKind.i64.wrap ((c.length : Int) - 1 + 1) = (c.length : Int) := by rw [w64 (by omega) (by omega)]; omega
  rw [hw]
  have e1 : (decide ((c.length : Int) - 1 < 0) || decide ((c.length : Int) - 1 > 10)) = (decide (c.length = 0) || decide (c.length > 11)) := by
    rw [Bool.eq_iff_iff]; simp only [Bool.or_eq_true, decide_eq_true_eq]; omega
  rw [e1]
  by_cases h0 : (decide (c.length = 0) || decide (c.length > 11)) = true
  · rw [if_pos h0]
    unfold rangeS
    rw [if_pos (by unfold badT; rw [h0]; rfl)]
  · rw [if_neg h0]
    have hm : 1 ≤ c.length ∧ c.length ≤ 11 := by
      simp only [Bool.or_eq_true, decide_eq_true_eq, not_or] at h0; omega
    refine scan_bind c.length (fun k => badRow c.length (c.getD k [])) (.inl ()) (fun _ => .inr (0, 0, 1)) ?_ ?_ ?_ ?_ ?_
    · intro k hk hp
      rw [if_pos (by simp; omega), getD_nat c k hk []]
      generalize c.getD k [] = r at hp
      simp only [Option.bind_some]
      simp only [badRow, Bool.or_eq_false_iff] at hp
      obtain ⟨hp1, hp2⟩ := hp
      have hlen : r.length = c.length := by simpa using hp1
      rw [hw2, if_neg (by simp; omega)]
      refine scan_bind c.length (fun j => wild (r.getD j 0)) (.inl ()) (fun _ => .inr (0, 0, 1)) ?_ ?_ ?_ ?_ ?_
      · intro j hj hq
        rw [if_pos (by simp; omega), getD_nat r j (by omega) 0]
        simp only [Option.bind_some]
        simp only [wild, Bool.or_eq_false_iff] at hq
        rw [hq.1]
        simp only [beq_self_eq_true, opt_true, Option.bind_some, Bool.false_or]
        rw [getD_nat r j (by omega) 0]
        simp only [Option.bind_some]
        rw [hq.2, if_neg (by simp), w64_succ (n := c.length) hj (by omega)]
      · intro j hj hq
        rw [if_pos (by simp; omega), getD_nat r j (by omega) 0]
        simp only [Option.bind_some]
        simp only [wild] at hq
        cases h1 : decide (r.getD j 0 < -1099511627776) with
        | true => rfl
        | false =>
          rw [h1, Bool.false_or] at hq
          simp only [beq_self_eq_true, opt_true, Option.bind_some, Bool.false_or]
          rw [getD_nat r j (by omega) 0]
          simp only [Option.bind_some]
          rw [hq, if_pos rfl]
      · rw [if_neg (by simp only [decide_eq_true_eq]; omega)]
      · intro _
        simp only
        rw [w64_succ (n := c.length) hk (by omega)]
      · intro j hj hq
        exfalso
        have := (any_getD r wild 0).1 ⟨j, by omega, hq⟩
        rw [hp2] at this; cases this
    · intro k hk hp
      rw [if_pos (by simp; omega), getD_nat c k hk []]
      generalize c.getD k [] = r at hp
      simp only [Option.bind_some]
      rw [hw2]
      by_cases hlen : r.length = c.length
      · rw [if_neg (by simp; omega)]
        have hany : r.any wild = true := by
          simp only [badRow, Bool.or_eq_true, bne_iff_ne, ne_eq] at hp
          exact hp.resolve_left (fun h => h hlen)
        refine scan_bind c.length (fun j => wild (r.getD j 0)) (.inl ()) (fun _ => .inr (0, 0, 1)) ?_ ?_ ?_ ?_ ?_
        · intro j hj hq
          rw [if_pos (by simp; omega), getD_nat r j (by omega) 0]
          simp only [Option.bind_some]
          simp only [wild, Bool.or_eq_false_iff] at hq
          rw [hq.1]
          simp only [beq_self_eq_true, opt_true, Option.bind_some, Bool.false_or]
          rw [getD_nat r j (by omega) 0]
          simp only [Option.bind_some]
          rw [hq.2, if_neg (by simp), w64_succ (n := c.length) hj (by omega)]
        · intro j hj hq
          rw [if_pos (by simp; omega), getD_nat r j (by omega) 0]
          simp only [Option.bind_some]
          simp only [wild] at hq
          cases h1 : decide (r.getD j 0 < -1099511627776) with
          | true => rfl
          | false =>
            rw [h1, Bool.false_or] at hq
            simp only [beq_self_eq_true, opt_true, Option.bind_some, Bool.false_or]
            rw [getD_nat r j (by omega) 0]
            simp only [Option.bind_some]
            rw [hq, if_pos rfl]
        · rw [if_neg (by simp only [decide_eq_true_eq]; omega)]
        · intro hno
          exfalso
          obtain ⟨j, hj, hq⟩ := (any_getD r wild 0).2 hany
          rw [hno j (by omega)] at hq; cases hq
        · intro j hj hq; rfl
      · rw [if_pos (by simp; omega)]
    · rw [if_neg (by simp only [decide_eq_true_eq]; omega)]
    · intro hno
      have hrows : c.any (badRow c.length) = false := by
        rw [← Bool.not_eq_true]
        intro h
        obtain ⟨k, hk, hp⟩ := (any_getD c (badRow c.length) []).2 h
        rw [hno k hk] at hp; cases hp
      simp only
      refine scan_bind vs.length (fun k => wild (vs.getD k 0)) (.inl ()) (fun _ => .inr (0, 0, 1)) ?_ ?_ ?_ ?_ ?_
      · intro j hj hq
        rw [if_pos (by simpa using hj), getD_nat vs j hj 0]
        simp only [Option.bind_some]
        simp only [wild, Bool.or_eq_false_iff] at hq
        rw [hq.1]
        simp only [beq_self_eq_true, opt_true, Option.bind_some, Bool.false_or]
        rw [hq.2, if_neg (by simp), w64_succ (n := vs.length) hj (by omega)]
      · intro j hj hq
        rw [if_pos (by simpa using hj), getD_nat vs j hj 0]
        simp only [Option.bind_some]
        simp only [wild] at hq
        cases h1 : decide (vs.getD j 0 < -1099511627776) with
        | true => rfl
        | false =>
          rw [h1, Bool.false_or] at hq
          simp only [beq_self_eq_true, opt_true, Option.bind_some, Bool.false_or]
          rw [hq, if_pos rfl]
      · rw [if_neg (by simp)]
      · intro hnv
        have hvals : vs.any wild = false := by
          rw [← Bool.not_eq_true]
          intro h
          obtain ⟨k, hk, hp⟩ := (any_getD vs wild 0).2 h
          rw [hnv k hk] at hp; cases hp
        have hb : ¬ badT c vs = true := by
          unfold badT
          rw [hrows, hvals]
          simpa using h0
        obtain ⟨sq, _, _⟩ := bad_sq hb
        simp only
        unfold rangeS
        rw [if_neg hb]
        by_cases hk : (vs.length : Int) ≥ (c.length : Int) - 1
        · rw [if_pos (by simpa using hk), if_pos (by simpa using hk)]
        · rw [if_neg (by simpa using hk), if_neg (by simpa using hk)]
          refine for_bind (vs.length + 1) (fun j => ((j : Int), (hiB c vs j).1, (loB c vs j).1, (hiB c vs j).2, (loB c vs j).2)) ((hiB c vs (vs.length + 1)).2, (loB c vs (vs.length + 1)).2) rfl ?_ ?_ ?_
          · intro j hj
            simp only
            rw [if_pos (by simp; omega)]
            have hrow : (if decide ((j : Int) < (vs.length : Int)) = true then (idx vs (j : Int)).bind fun t99 => some (t99, (j : Int)) else some ((0:Int), (c.length : Int) - 1)) = some (valOf vs j, ((rowOf c vs j : Nat) : Int)) := by
              unfold rowOf valOf
              by_cases h : j < vs.length
              · rw [if_pos (by simpa using h), if_neg (by omega), getD_nat vs j h 0]
                simp only [Option.bind_some, Option.some.injEq, Prod.mk.injEq, and_true]
                rw [List.getD_eq_getElem?_getD, List.getD_eq_getElem?_getD, List.getElem?_append_left h]
              · have : j = vs.length := by omega
                subst this
                rw [if_neg (by simp), if_pos rfl]
                simp
                omega
            rw [hrow]
            simp only [Option.bind_some]
            have hri : rowOf c vs j < c.length := by unfold rowOf; split <;> omega
            have hki : vs.length < c.length := by omega
            rw [(sq.idx hri).1, (sq.idx hki).1]
            simp only [Option.bind_some]
            rw [sq.idx2 hri hki, sq.idx2 hki hri]
            simp only [Option.bind_some]
            have f1 : (if decide (at2 c (rowOf c vs j) vs.length < 1099511627776) = true then
                (opt ((!(loB c vs j).1) == false) (some (c.getD (rowOf c vs j) [])) default).bind fun t115 => (opt ((!(loB c vs j).1) == false) (idx t115 (vs.length : Int)) default).bind fun t118 =>
                  ((if ((!(loB c vs j).1) || decide (IntKind.i64.wrap (valOf vs j - t118) > (loB c vs j).2)) = true then some (IntKind.i64.wrap (valOf vs j - at2 c (rowOf c vs j) vs.length)) else some (loB c vs j).2)).bind fun p149 => some (true, p149) else some ((loB c vs j).1, (loB c vs j).2)) = some (loB c vs (j + 1)) := by
              unfold loB
              rw [loF_succ]
              by_cases h : at2 c (rowOf c vs j) vs.length < 1099511627776
              · rw [if_pos (by simpa using h), if_pos h, best_snoc]
                generalize best imax (-1099511627776) (loF c vs j) = b
                obtain ⟨b1, b2⟩ := b
                cases b1 with
                | false => rfl
                | true =>
                  simp only [Bool.not_true, beq_self_eq_true, opt_true, Option.bind_some, Bool.false_or, if_true]
                  rw [sq.idx2 hri hki]
                  simp only [Option.bind_some, imax]
                  by_cases h2 : IntKind.i64.wrap (valOf vs j - at2 c (rowOf c vs j) vs.length) > b2
                  · rw [if_pos (by simpa using h2), if_pos h2]; rfl
                  · rw [if_neg (by simpa using h2), if_neg h2]; rfl
              · rw [if_neg (by simpa using h), if_neg h, List.append_nil]
            have f2 : (if decide (at2 c vs.length (rowOf c vs j) < 1099511627776) = true then
                (opt ((!(hiB c vs j).1) == false) (some (c.getD vs.length [])) default).bind fun t115 => (opt ((!(hiB c vs j).1) == false) (idx t115 ((rowOf c vs j : Nat) : Int)) default).bind fun t118 =>
                  ((if ((!(hiB c vs j).1) || decide (IntKind.i64.wrap (valOf vs j + t118) < (hiB c vs j).2)) = true then some (IntKind.i64.wrap (valOf vs j + at2 c vs.length (rowOf c vs j))) else some (hiB c vs j).2)).bind fun p149 => some (true, p149) else some ((hiB c vs j).1, (hiB c vs j).2)) = some (hiB c vs (j + 1)) := by
              unfold hiB
              rw [hiF_succ]
              by_cases h : at2 c vs.length (rowOf c vs j) < 1099511627776
              · rw [if_pos (by simpa using h), if_pos h, best_snoc]
                generalize best imin 1099511627776 (hiF c vs j) = b
                obtain ⟨b1, b2⟩ := b
                cases b1 with
                | false => rfl
                | true =>
                  simp only [Bool.not_true, beq_self_eq_true, opt_true, Option.bind_some, Bool.false_or, if_true]
                  rw [sq.idx2 hki hri]
                  simp only [Option.bind_some, imin]
                  by_cases h2 : IntKind.i64.wrap (valOf vs j + at2 c vs.length (rowOf c vs j)) < b2
                  · rw [if_pos (by simpa using h2), if_pos h2]; rfl
                  · rw [if_neg (by simpa using h2), if_neg h2]; rfl
              · rw [if_neg (by simpa using h), if_neg h, List.append_nil]
            refine Eq.trans (congrArg (fun z => Option.bind z _) f1) ?_
            simp only [Option.bind_some]
            refine Eq.trans (congrArg (fun z => Option.bind z _) f2) ?_
            simp only [Option.bind_some]
            rw [w64_succ (n := vs.length + 1) hj (by omega)]
          · simp only
            rw [if_neg (by simp only [decide_eq_true_eq]; omega)]
          · simp only
            split <;> rfl
      · intro j hj hq
        have hvals : vs.any wild = true := (any_getD vs wild 0).1 ⟨j, hj, hq⟩
        have hb : badT c vs = true := by unfold badT; rw [hvals]; simp
        unfold rangeS
        rw [if_pos hb]
    · intro k hk hp
      have hrows : c.any (badRow c.length) = true := (any_getD c (badRow c.length) []).1 ⟨k, hk, hp⟩
      have hb : badT c vs = true := by unfold badT; rw [hrows]; simp
      unfold rangeS
      rw [if_pos hb]

end Go.Proofs.Ytjniiejgccdhiaa
