/- TypingLeads: what the law's function gives. No condition. -/
import Derived.Test.YthdfmpocknmleaaGreatDoorTyG
import Derived.Test.YthdfmpocknmleaaGreatDoorEvalA
namespace Go.Proofs.YthdfmpocknmleaaGreatDoor
open Go.Sim

theorem leads_true (l : List Int) (a h b : Int) (name : Str) (i0 : ∀ x ∈ l, I64 x) (i1 : I64 a) (i2 : I64 h) (i3 : I64 b) (_ : name.length ≤ maxLen) : flaw10_TypingLeads l a h b name = some true := by
  have key : Ok (flaw10_TypingLeads l a h b name) (fun r => r = true) := by
    unfold flaw10_TypingLeads
    refine (some_ok i0 i1 i2 i3).bind fun xs hxs => ?_
    obtain ⟨hx5, hsz⟩ := hxs
    refine Ok.bind (P := fun e => e = .inl ()) (Ok.loop (fun k s => 0 ≤ s ∧ s + k = xs.length) xs.length ⟨Int.le_refl _, by omega⟩ fun m s hs => ?_) fun e he => by subst he; dsimp only; rw [lives_true]; exact Ok.mk rfl
    refine Ok.ite (fun hc => ?_) (fun _ => Ok.mk rfl)
    have hc' : s < xs.length := of_decide_eq_true hc
    refine Ok.idx hs.1 hc' fun x hxm _ => ?_
    have hx := hsz x hxm
    have hf := hx.few
    have hK := hx.1.1
    refine Ok.bind (P := fun e : List Str ⊕ Bool => ∃ ns, e = .inl ns ∧ ns.length ≤ 1000) (Ok.loop (fun m s => -1 ≤ s.1 ∧ s.1 + m = 4 ∧ s.2.length ≤ 3 + 39 * (s.1 + 1)) 5 ⟨by dsimp only; decide, by dsimp only; decide, by simp⟩ fun m1 s1 hs1 => ?_) fun e he => ?_
    · obtain ⟨k, ns⟩ := s1
      obtain ⟨e1, e2, e3⟩ := hs1
      dsimp only at e1 e2 e3
      refine Ok.ite (fun hk => ?_) (fun _ => Ok.mk ⟨ns, rfl, by omega⟩)
      simp only [Bool.and_eq_true, decide_eq_true_eq] at hk
      refine Ok.bind (P := fun e : List Str ⊕ Bool => ∃ q, e = .inl q ∧ q.length ≤ 3 + 39 * (k + 2)) (Ok.loop (fun m s => -1 ≤ s.1 ∧ s.1 + m = 12 ∧ s.2.length ≤ 3 + 39 * (k + 1) + 3 * (s.1 + 1)) 13 ⟨by dsimp only; decide, by dsimp only; decide, by dsimp only; omega⟩ fun m2 s2 hs2 => ?_) fun e he => ?_
      · obtain ⟨j, ms⟩ := s2
        obtain ⟨d1, d2, d3⟩ := hs2
        dsimp only at d1 d2 d3
        refine Ok.ite (fun hj => ?_) (fun _ => Ok.mk ⟨ms, rfl, by omega⟩)
        have hj' : j ≤ 11 := of_decide_eq_true hj
        rw [typing_Shares_is hf, ref10_Shares_is hf, typing_Up_is hf, ref10_Up_is hf, has_is]
        simp only [Option.bind_some, bne_self_eq_false, Bool.or_false]
        rw [if_neg (by decide)]
        refine Ok.bind (P := fun p : List Str => p.length ≤ ms.length + 3) (Ok.ite (fun hh => ?_) (fun _ => Ok.mk (by omega))) fun p hp => Ok.mk ⟨m2 - 1, by omega, ?_⟩
        · obtain ⟨f, hff⟩ := Option.isSome_iff_exists.1 hh
          obtain ⟨q, g1, g2, hq, hqf, _⟩ := field_some hff
          rw [hq]
          simp only [Option.bind_some]
          rw [hqf]
          simp only [Option.bind_some]
          exact Ok.rm (by simp; omega) (Ok.mk (by simp))
        · dsimp only
          rw [w64 (n := j + 1) (by omega) (by omega)]
          exact ⟨by omega, by omega, by omega⟩
      · obtain ⟨q, rfl, hq⟩ := he
        refine Ok.mk ⟨m1 - 1, by omega, ?_⟩
        dsimp only
        rw [w64 (n := k + 1) (by omega) (by omega)]
        exact ⟨by omega, by omega, by omega⟩
    · obtain ⟨ns, rfl, hns⟩ := he
      refine Ok.bind (P := fun e => e = .inl ()) (Ok.loop (fun k s => 0 ≤ s ∧ s + k = ns.length) ns.length ⟨Int.le_refl _, by omega⟩ fun m2 s2 hs2 => ?_) fun e he => ?_
      · refine Ok.ite (fun hn => ?_) (fun _ => Ok.mk rfl)
        have hn' : s2 < ns.length := of_decide_eq_true hn
        obtain ⟨nm, hnm, _⟩ := idx_some hs2.1 hn'
        rw [hnm]
        simp only [Option.bind_some]
        rw [typing_Kind_is (by omega), ref10_Kind_is (by omega)]
        simp only [Option.bind_some, bne_self_eq_false]
        rw [if_neg (by decide)]
        refine Ok.bind (P := fun e => e = .inl ()) (Ok.loop (fun k s => 0 ≤ s ∧ s + k = x.Kinds.length) x.Kinds.length ⟨Int.le_refl _, by omega⟩ fun m3 s3 hs3 => ?_) fun e he => ?_
        · refine Ok.ite (fun hk => ?_) (fun _ => Ok.mk rfl)
          simp only [Bool.and_eq_true, decide_eq_true_eq] at hk
          obtain ⟨q, hq, hqm⟩ := idx_some hs3.1 hk.1
          have hql := hf.2 q hqm
          rw [hq]
          simp only [Option.bind_some]
          rw [typing_Field_is (by omega), ref10_Field_is (by omega)]
          simp only [Option.bind_some, bne_self_eq_false]
          rw [if_neg (by decide), w64 (n := s3 + 1) (by omega) (by omega)]
          exact Ok.mk ⟨m3 - 1, by omega, by omega, by omega⟩
        · subst he
          dsimp only
          rw [w64 (n := s2 + 1) (by omega) (by omega)]
          exact Ok.mk ⟨m2 - 1, by omega, by omega, by omega⟩
      · subst he
        dsimp only
        rw [w64 (n := s + 1) (by omega) (by omega)]
        exact Ok.mk ⟨m - 1, by omega, by omega, by omega⟩
  obtain ⟨r, hr, rfl⟩ := key
  exact hr

end Go.Proofs.YthdfmpocknmleaaGreatDoor
