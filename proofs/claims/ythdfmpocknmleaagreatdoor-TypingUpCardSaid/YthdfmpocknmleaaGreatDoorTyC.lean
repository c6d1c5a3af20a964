/- The generator of schemas and the changes of schemas give results. No condition. -/
import Derived.Test.YthdfmpocknmleaaGreatDoorTyB
namespace Go.Proofs.YthdfmpocknmleaaGreatDoor
open Go.Sim

theorem rule_ok {m : Sref09_Maker} {k : Sapi_Kind} (hm : MOk m) (hk : GOk 12 k) : Ok (fref09_Maker_rule m k) (fun r => MOk r.2.2) := by
  unfold fref09_Maker_rule
  obtain ⟨⟨k1, k2⟩, k3, k4⟩ := hk
  refine (has_ok (by omega)).bind fun a ha => (has_ok (by omega)).bind fun b hb => ?_
  refine Ok.opt (P := fun r : Int × Sref09_Maker => MOk r.2) (fun h => (take_ok hm (by decide)).weak fun r h => h.2.2) fun r1 h1 => ?_
  have m1 : MOk (bif (decide (a ≥ (0:Int))) == true then r1.2 else m) := mok_cond (fun h => h1 (by rw [h]; rfl)) hm
  have nm : ∀ {β : Type} {Q : β → Prop} {f : Str → Option β}, (∀ r : Str, r.length = 1 → Ok (f r) Q) → Ok ((sub k.Name 0 1).bind f) Q := fun h => Ok.sub (by decide) (by decide) (by omega) fun r hr _ => h r (by simpa using hr)
  refine Ok.ite (fun _ => nm fun r hr => Ok.cat (by simp; omega) (Ok.take m1 (by decide) fun _ m2 _ _ h2 => Ok.mk h2)) (fun _ => ?_)
  refine Ok.ite (fun _ => Ok.mk m1) (fun h => ?_)
  have hb0 : ¬ b < 0 := of_decide_eq_false h
  refine Ok.idx (by omega) hb.2 fun f _ _ => Ok.take m1 (by decide) fun r2 m2 _ _ h2 => ?_
  refine Ok.ite (fun _ => nm fun r hr => Ok.cat (by simp; omega) (Ok.take h2 (by decide) fun _ m2 _ _ h2 => Ok.mk h2)) (fun _ => nm fun r hr => Ok.cat (by simp; omega) (Ok.take h2 (by decide) fun _ m2 _ _ h2 => Ok.mk h2))

/-- A schema of the generators. -/
def SOk (n : Nat) (x : Sapi_Schema) : Prop := x.Kinds.length ≤ 3 ∧ (∀ k ∈ x.Kinds, KOk 14 k) ∧ x.Lives.length ≤ 1 ∧ (∀ m ∈ x.Lives, m.States.length ≤ 6 ∧ m.Moves.length ≤ 8) ∧ x.Rules.length ≤ n
theorem SOk.weak {a b : Nat} {x : Sapi_Schema} (h : SOk a x) (hab : a ≤ b) : SOk b x := ⟨h.1, h.2.1, h.2.2.1, h.2.2.2.1, Nat.le_trans h.2.2.2.2 hab⟩

theorem schema_ok {l : List Int} (hl : ∀ x ∈ l, I64 x) : Ok (fref09_Schema l) (SOk 2) := by
  unfold fref09_Schema
  refine Ok.sub (by decide) (by unfold imin; split <;> omega) (by unfold imin; split <;> omega) fun w _ hw => ?_
  have h0 : MOk (Sref09_Maker.mk w 0) := fun x hx => hl x (hw x hx)
  refine Ok.take h0 (by decide) fun v m1 _ _ h1 => Ok.take h1 (by decide) fun n m2 a2 b2 h2 => ?_
  have en : IntKind.i64.wrap (1 + n) = 1 + n := w64 (by omega) (by omega)
  refine Ok.bind (P := fun p : List Sapi_Kind × Sref09_Maker => p.1.length = 1 + n ∧ (∀ k ∈ p.1, GOk 12 k) ∧ MOk p.2)
    (Ok.loop (fun k s => 0 ≤ s.1 ∧ s.1 + k = 1 + n ∧ s.2.1.length = s.1 ∧ (∀ q ∈ s.2.1, GOk (9 + s.1.toNat) q) ∧ MOk s.2.2) (1 + n).toNat ⟨Int.le_refl _, by dsimp only; omega, by simp, by simp, h2⟩ fun k s hs => ?_) (fun p hp => ?_)
  · obtain ⟨i, ks, m3⟩ := s
    obtain ⟨e1, e2, e3, e4, e5⟩ := hs
    dsimp only at e1 e2 e3 e4 e5
    refine Ok.ite (fun h => ?_) (fun h => ?_)
    · have h' : i < 1 + n := by have := of_decide_eq_true h; rwa [en] at this
      refine (kind_ok (N := 9 + i.toNat) e5 (by omega) (by omega) e4).bind fun r hr => ?_
      obtain ⟨r1, r2, r3, r4⟩ := hr
      refine Ok.rm (by simp; omega) (Ok.mk ?_)
      have ei : IntKind.i64.wrap (i + 1) = i + 1 := w64 (by omega) (by omega)
      refine ⟨k - 1, by omega, ?_⟩
      dsimp only
      rw [ei]
      refine ⟨by omega, by omega, by simp; omega, fun q hq => ?_, r2⟩
      rcases List.mem_append.1 hq with hq | hq
      · exact (r4 q hq).weak (by omega)
      · rw [List.mem_singleton] at hq; subst hq; exact r1.weak (by omega)
    · have h' : ¬ i < 1 + n := by have := of_decide_eq_false h; rwa [en] at this
      refine Ok.mk ⟨by dsimp only; omega, fun q hq => (e4 q hq).weak (by omega), e5⟩
  obtain ⟨p1, p2, p3⟩ := hp
  refine Ok.take p3 (by decide) fun t m4 a4 b4 h4 => ?_
  have et : IntKind.i64.wrap (2 + t) = 2 + t := w64 (by omega) (by omega)
  refine Ok.sub (by decide) (by dsimp only; rw [et]; omega) (by dsimp only; rw [et]; simp; omega) fun st hst _ => ?_
  dsimp only at hst
  rw [et] at hst
  have hsl : 2 ≤ st.length ∧ st.length ≤ 4 := by omega
  refine Ok.bind (P := fun p : List A2_Int => p.length ≤ 3) (Ok.loop (fun k s => 0 ≤ s.1 ∧ s.1 + 1 + k = st.length ∧ s.2.length = s.1) (st.length - 1) ⟨Int.le_refl _, by dsimp only; omega, by simp⟩ fun k s hs => ?_) (fun mv hmv => ?_)
  · obtain ⟨i, ms⟩ := s
    obtain ⟨e1, e2, e3⟩ := hs
    dsimp only at e1 e2 e3
    have ei : IntKind.i64.wrap (i + 1) = i + 1 := w64 (by omega) (by omega)
    refine Ok.ite (fun h => ?_) (fun h => ?_)
    · have h' : i + 1 < st.length := by have := of_decide_eq_true h; rwa [ei] at this
      refine Ok.rm (by simp; omega) (Ok.mk ⟨k - 1, by omega, ?_⟩)
      dsimp only
      rw [ei]
      exact ⟨by omega, by omega, by simp; omega⟩
    · have h' : ¬ i + 1 < st.length := by have := of_decide_eq_false h; rwa [ei] at this
      exact Ok.mk (by dsimp only; omega)
  refine Ok.take h4 (by decide) fun r5 m5 _ _ h5 => ?_
  refine Ok.bind (P := fun p : List A2_Int => p.length ≤ 4) (Ok.ite (fun _ => Ok.rm (by simp; omega) (Ok.mk (by simp; omega))) (fun _ => Ok.mk (by omega))) fun mv2 hmv2 => ?_
  refine Ok.take h5 (by decide) fun r6 m6 _ _ h6 => ?_
  refine Ok.bind (P := fun p : List A2_Int => p.length ≤ 5) (Ok.ite (fun _ => Ok.rm (by simp; omega) (Ok.mk (by simp; omega))) (fun _ => Ok.mk (by omega))) fun mv3 hmv3 => ?_
  refine Ok.rm (by simp) ?_
  refine Ok.bind (P := fun p : List Sapi_Rule => p.length ≤ 2) (Ok.loop (fun k s => 0 ≤ s.1 ∧ s.1 + k = 1 + n ∧ s.2.1.length ≤ 2 ∧ MOk s.2.2) (1 + n).toNat ⟨Int.le_refl _, by dsimp only; omega, by simp, h6⟩ fun k s hs => ?_) (fun rs hrs => ?_)
  · obtain ⟨i, rs, m7⟩ := s
    obtain ⟨e1, e2, e3, e4⟩ := hs
    dsimp only at e1 e2 e3 e4
    refine Ok.ite (fun h => ?_) (fun h => Ok.mk e3)
    simp only [Bool.and_eq_true, decide_eq_true_eq, en] at h
    refine Ok.idx e1 (by omega) fun q hq _ => (rule_ok e4 (p2 q hq)).bind fun r hr => ?_
    refine Ok.bind (P := fun p : List Sapi_Rule => p.length ≤ 2) (Ok.ite (fun _ => Ok.rm (by simp; omega) (Ok.mk (by simp; omega))) (fun _ => Ok.mk e3)) fun rs2 hrs2 => Ok.mk ⟨k - 1, by omega, ?_⟩
    dsimp only
    rw [w64 (n := i + 1) (by omega) (by omega)]
    exact ⟨by omega, by omega, hrs2, hr⟩
  · refine Ok.mk ⟨by dsimp only; omega, fun q hq => ⟨by have := (p2 q hq).1.1; omega, (p2 q hq).1.2⟩, by simp, ?_, hrs⟩
    intro q hq
    simp only [List.nil_append, List.mem_singleton] at hq
    subst hq
    exact ⟨by dsimp only; omega, by dsimp only; omega⟩

end Go.Proofs.YthdfmpocknmleaaGreatDoor
