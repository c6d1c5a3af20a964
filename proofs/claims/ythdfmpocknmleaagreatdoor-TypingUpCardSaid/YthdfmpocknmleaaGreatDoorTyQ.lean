/- TypingUp: what the law's function gives. No condition. -/
import Derived.Test.YthdfmpocknmleaaGreatDoorTyP
import Derived.Test.YthdfmpocknmleaaGreatDoorEvalA
namespace Go.Proofs.YthdfmpocknmleaaGreatDoor
open Go.Sim

theorem up_true (l : List Int) (a h b : Int) (i0 : ∀ x ∈ l, I64 x) (i1 : I64 a) (i2 : I64 h) (i3 : I64 b) : flaw10_TypingUp l a h b = some true := by
  have key : Ok (flaw10_TypingUp l a h b) (fun r => r = true) := by
    unfold flaw10_TypingUp
    refine (some_ok i0 i1 i2 i3).bind fun xs hxs => ?_
    obtain ⟨hx5, hsz⟩ := hxs
    refine Ok.bind (P := fun e => e = .inl ()) (Ok.loop (fun k s => 0 ≤ s ∧ s + k = xs.length) xs.length ⟨Int.le_refl _, by omega⟩ fun m s hs => ?_) fun e he => by subst he; dsimp only; rw [lives_true]; exact Ok.mk rfl
    refine Ok.ite (fun hc => ?_) (fun _ => Ok.mk rfl)
    have hc' : s < xs.length := of_decide_eq_true hc
    unfold jn
    dsimp only
    have go : ∀ {ρ : Type} {Q : (Int ⊕ ρ) → Prop}, (∀ k', k' < m → 0 ≤ s + 1 → s + 1 + k' = xs.length → Q (.inl (s + 1))) → Ok (some (Sum.inl (β := ρ) (IntKind.i64.wrap (s + 1)))) Q := fun hq => by
      rw [w64 (n := s + 1) (by omega) (by omega)]
      exact Ok.mk (hq (m - 1) (by omega) (by omega) (by omega))
    refine Ok.idx hs.1 hc' fun x hxm _ => ?_
    have hx := hsz x hxm
    have hf := hx.few
    have hK := hx.1.1
    rw [Check_is hx.short]
    simp only [Option.bind_some]
    refine Ok.ite (fun _ => go fun k' a1 a2 a3 => ⟨k', a1, a2, a3⟩) (fun hcl => ?_)
    have hcl' : checkS x = [] := by
      have : ¬ ((checkS x).length : Int) > 0 := of_decide_eq_false hcl
      exact List.eq_nil_of_length_eq_zero (by omega)
    refine Ok.bind (P := fun e => e = .inl ()) (Ok.loop (fun k s => 0 ≤ s ∧ s + k = x.Kinds.length) x.Kinds.length ⟨Int.le_refl _, by omega⟩ fun m1 k hk => ?_) fun e he => ?_
    · refine Ok.ite (fun hkl => ?_) (fun _ => Ok.mk rfl)
      have hkl' : k < x.Kinds.length := of_decide_eq_true hkl
      obtain ⟨q, hq, hqm⟩ := idx_some hk.1 hkl'
      have hql := hf.2 q hqm
      refine Ok.bind (P := fun e => e = .inl ()) (Ok.loop (fun n s => 0 ≤ s ∧ s + n = q.Fields.length) q.Fields.length ⟨Int.le_refl _, by omega⟩ fun m2 j hj => ?_) fun e he => ?_
      · rw [hq]
        simp only [Option.bind_some]
        refine Ok.ite (fun hjl => ?_) (fun _ => Ok.mk rfl)
        have hjl' : j < q.Fields.length := of_decide_eq_true hjl
        obtain ⟨f, hqf, _⟩ := idx_some hj.1 hjl'
        have hff := field_of hk.1 hj.1 hq hqf
        have hle := clean hcl' hq hff
        have hul := upIx_lt x k j hk.1
        rw [hqf]
        simp only [Option.bind_some]
        rw [typing_Up_is hf, typing_Shares_is hf]
        simp only [Option.bind_some]
        have c1 : ((((f.Kind == 1) || (f.Kind == 7)) || (f.Kind == 8)) && ((decide (upIx x k j < 0)) || (decide (upIx x k j ≥ k)))) = false ∧ ((!(((f.Kind == 1) || (f.Kind == 7)) || (f.Kind == 8))) && (upIx x k j != -1)) = false := by
          by_cases hl : f.Kind = 1 ∨ f.Kind = 7 ∨ f.Kind = 8
          · have hu := up_clean hle hl
            refine ⟨?_, ?_⟩
            · rw [Bool.and_eq_false_iff]; right; simp; omega
            · rw [Bool.and_eq_false_iff]; left; simp; omega
          · have hu := up_none hff (fun h => hl (.inl h)) (fun h => hl (.inr (.inl h))) (fun h => hl (.inr (.inr h)))
            refine ⟨?_, ?_⟩
            · rw [Bool.and_eq_false_iff]; left; simp; omega
            · rw [hu]; simp
        rw [c1.1, c1.2]
        rw [if_neg (by decide)]
        rw [w64 (n := j + 1) (by omega) (by omega)]
        by_cases h6 : f.Kind = 6
        · obtain ⟨o, c, e, ho, hup⟩ := share_clean hff hle h6
          rw [e]
          dsimp only
          rw [typing_Up_is hf, hup]
          have e6 : (f.Kind == 6) = true := by simp [h6]
          have e7 : (f.Kind != 6) = false := by simp [h6]
          have e8 : decide (o ≤ k) = false := decide_eq_false (by omega)
          rw [e6, e7, e8]
          simp only [Sim.opt, beq_self_eq_true, Bool.and_self, if_true, Option.bind_some, bne_self_eq_false, Bool.or_false, Bool.and_false, Bool.false_and]
          rw [if_neg (by decide)]
          exact Ok.mk ⟨m2 - 1, by omega, by omega, by omega⟩
        · rw [share_none hff h6]
          have e6 : (f.Kind == 6) = false := by simpa using h6
          have e7 : (f.Kind != 6) = true := by simpa using h6
          dsimp only
          rw [e6, e7]
          simp only [Sim.opt, bne_self_eq_false, Bool.or_false, Bool.and_false, Bool.false_and]
          exact Ok.mk ⟨m2 - 1, by omega, by omega, by omega⟩
      · subst he
        dsimp only
        rw [w64 (n := k + 1) (by omega) (by omega)]
        exact Ok.mk ⟨m1 - 1, by omega, by omega, by omega⟩
    · subst he
      exact go fun k' a1 a2 a3 => ⟨k', a1, a2, a3⟩
  obtain ⟨r, hr, rfl⟩ := key
  exact hr

end Go.Proofs.YthdfmpocknmleaaGreatDoor
