/- Package bounds: what Bent makes. No condition. -/
import Derived.Test.YtjniiejgccdhiaaBoundsL
namespace Go.Proofs.Ytjniiejgccdhiaa
open Go.Sim

theorem bent_is (l : List SDiff) (a h b : Int) (hl : l.length ≤ 1000) (ha : I64 a) (hh : I64 h) (hb : I64 b) : ∃ p, fBent l a h b = some p ∧ p.length ≤ l.length + 66 := by
  unfold fBent
  rw [List.nil_append, rm_le (by simp; omega)]
  simp only [Option.bind_some]
  by_cases h0 : l.length = 0
  · rw [if_pos (by simpa using h0)]
    obtain ⟨x, hx, _, _⟩ := around_is b 5 hb (by omega)
    obtain ⟨y, hy, _, _⟩ := around_is b 8388608 hb (by omega)
    rw [hx, hy]
    exact ⟨_, rfl, by simp⟩
  · rw [if_neg (by simpa using h0)]
    obtain ⟨x, hx, x0, x1⟩ := around_is a l.length ha (by omega)
    obtain ⟨y, hy, y0, y1⟩ := around_is h 6 hh (by omega)
    obtain ⟨z9, hz9, _, _⟩ := around_is b 9 hb (by omega)
    obtain ⟨z6, hz6, z60, z61⟩ := around_is b 6 hb (by omega)
    obtain ⟨z3, hz3, z30, z31⟩ := around_is b 3 hb (by omega)
    obtain ⟨x, rfl⟩ : ∃ k : Nat, x = (k : Int) := ⟨x.toNat, by omega⟩
    obtain ⟨z6, rfl⟩ : ∃ k : Nat, z6 = (k : Int) := ⟨z6.toNat, by omega⟩
    have hxl : x < l.length := by omega
    rw [hx, hy]
    simp only [Option.bind_some]
    rw [hz9, hz6]
    simp only [Option.bind_some]
    rw [idx_lt hxl, idx_lt (show z6 < [(-2097152:Int), (2097152:Int), (-2097153:Int), (2097153:Int), (0:Int), (-5:Int)].length by simp; omega)]
    simp only [Option.bind_some]
    simp only [setAt_lt hxl, Option.bind_some]
    by_cases c0 : (y == 0) = true
    · rw [if_pos c0]; exact ⟨_, rfl, by simp⟩
    rw [if_neg c0]
    by_cases c1 : (y == 1) = true
    · rw [if_pos c1]; exact ⟨_, rfl, by simp⟩
    rw [if_neg c1]
    by_cases c2 : (y == 2) = true
    · rw [if_pos c2]; exact ⟨_, rfl, by simp⟩
    rw [if_neg c2]
    by_cases c3 : (y == 3) = true
    · rw [if_pos c3, rm_le (by simp; omega)]; exact ⟨_, rfl, by simp⟩
    rw [if_neg c3]
    by_cases c4 : (y == 4) = true
    · rw [if_pos c4]
      obtain ⟨r, hr, hr2⟩ := loop_ex (body := (fun (s535 : List SDiff) => ((fAround b (3:Int)).bind fun t82 => (if (decide ((s535.length : Int) < (IntKind.i64.wrap ((63:Int) + t82)))) = true then (idx s535 (x : Int)).bind fun t88 => (rm (s535.length + [t88].length)).bind fun _ => (some (.inl (s535 ++ [t88]))) else (some (.inr s535))) : Option ((List SDiff) ⊕ ((List SDiff))))))
        ((63 + z3).toNat - l.length) (fun k s => s.length = l.length + k) (fun r => r.length ≤ l.length + 66) (s0 := l) (by simp)
        (by
          intro k s hk hs
          rw [hz3]
          simp only [Option.bind_some]
          rw [w64 (by omega) (by omega), if_pos (by simp; omega), idx_lt (show x < s.length by omega)]
          simp only [Option.bind_some]
          rw [rm_le (by simp; omega)]
          exact ⟨_, rfl, by simp; omega⟩)
        (by
          intro s hs
          rw [hz3]
          simp only [Option.bind_some]
          rw [w64 (by omega) (by omega), if_neg (by simp; omega)]
          exact ⟨_, rfl, by omega⟩)
      rw [hr]
      exact ⟨_, rfl, hr2⟩
    rw [if_neg c4]
    have e1 : sub l (0 : Int) (x : Int) = some (l.take x) := by
      unfold sub; rw [if_pos (by omega)]; simp
    have e2 : sub l (IntKind.i64.wrap ((x : Int) + 1)) (l.length : Int) = some (l.drop (x + 1)) := by
      rw [w64 (by omega) (by omega)]
      unfold sub
      rw [if_pos (by omega), show ((x : Int) + 1).toNat = x + 1 by omega, List.take_of_length_le (by simp)]
    rw [e1, e2]
    simp only [Option.bind_some]
    rw [rm_le (by simp; omega)]
    exact ⟨_, rfl, by simp; omega⟩

theorem few_free (raw : List Int) (hr : ∀ x ∈ raw, I64 x) (hl : raw.length ≤ 8) :
    ∃ r, tailrec (fun (s8 : Int × List Int) => ((if (decide (s8.1 < (s8.2.length : Int))) = true then (idx s8.2 s8.1).bind fun t47 => (fAround t47 (2199023255553:Int)).bind fun t49 => (setAt s8.2 s8.1 (IntKind.i64.wrap (t49 - (1099511627776:Int)))).bind fun t51s => (some (.inl ((IntKind.i64.wrap (s8.1 + (1:Int))), t51s))) else (some (.inr s8.2))) : Option ((Int × List Int) ⊕ ((List Int))))) ((0:Int), raw) = some r ∧ True := by
  refine loop_ex raw.length (fun k s => s.1 = (k : Int) ∧ s.2.length = raw.length ∧ ∀ x ∈ s.2, I64 x) (fun _ => True) ⟨rfl, rfl, hr⟩ ?_ ?_
  · rintro k ⟨s1, s2⟩ hk ⟨e, hlen, hok⟩
    simp only at e hlen hok ⊢
    subst e
    have hk2 : k < s2.length := by omega
    rw [if_pos (by simpa using hk2), idx_lt hk2]
    simp only [Option.bind_some]
    obtain ⟨x, hx, _, _⟩ := around_is s2[k] 2199023255553 (hok _ (List.getElem_mem hk2)) (by omega)
    rw [hx]
    simp only [Option.bind_some]
    rw [setAt_lt hk2]
    refine ⟨_, rfl, ?_, by simpa using hlen, fun y hy => ?_⟩
    · simp only; rw [w64_succ hk2 (by omega)]
    · rcases List.mem_or_eq_of_mem_set hy with h | h
      · exact hok y h
      · rw [h]; exact w64_range _
  · rintro ⟨s1, s2⟩ ⟨e, hlen, hok⟩
    simp only at e hlen hok ⊢
    subst e
    rw [if_neg (by simp; omega)]
    exact ⟨_, rfl, trivial⟩

theorem fills_true (l : List Int) (a h b : Int) (picks raw : List Int) (hl : ∀ x ∈ l, I64 x) (ha : I64 a) (hh : I64 h) (hb : I64 b) (_ : ∀ x ∈ picks, I64 x) (hraw : ∀ x ∈ raw, I64 x) : fBoundsFills l a h b picks raw = some true := by
  unfold fBoundsFills
  obtain ⟨n, d, hm, _, _, hd, _⟩ := made14_is l hl
  rw [hm]
  simp only [Option.bind_some]
  obtain ⟨p, hp, hpl⟩ := bent_is d a h b (by omega) ha hh hb
  rw [hp]
  simp only [Option.bind_some]
  rw [take_is raw 8 (by omega) (by omega)]
  simp only [Option.bind_some]
  obtain ⟨few, hfew, _⟩ := few_free (raw.take (8 : Int).toNat) (fun x hx => hraw x (List.mem_of_mem_take hx)) (by simp; omega)
  rw [hfew]
  simp only [Option.bind_some]
  refine for_bind 2 (fun k => (k : Int)) (.inl ()) rfl ?_ (by rw [if_neg (by simp)]) ?_
  · intro k hk
    rw [if_pos (by simp; omega)]
    obtain ⟨t, hi, ht⟩ : ∃ t, idx [d, p] (k : Int) = some t ∧ t.length < 1000000 := by
      match k, hk with
      | 0, _ => exact ⟨d, rfl, by omega⟩
      | 1, _ => exact ⟨p, rfl, by omega⟩
    rw [hi]
    simp only [Option.bind_some]
    rw [own_is t ht]
    simp only [Option.bind_some]
    rw [fill_is, fillR_is]
    simp only [Option.bind_some]
    rw [sameInts_is _ _ (by have := fillS_len n t picks; omega)]
    simp only [Option.bind_some, bne_self_eq_false, BEq.rfl, opt_true, decide_true, Bool.not_true, Bool.or_false, Bool.false_eq_true, if_false, holds_is t _ ht, holdsR_is t _ ht, own_is t ht]
    rw [w64_succ hk (by omega)]
  · simp only
    rw [lives14_is]
    rfl

end Go.Proofs.Ytjniiejgccdhiaa
