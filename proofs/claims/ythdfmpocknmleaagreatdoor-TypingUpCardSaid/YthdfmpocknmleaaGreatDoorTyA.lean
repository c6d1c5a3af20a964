/- The generators of schemas give a result. No condition. -/
import Derived.Test.YthdfmpocknmleaaGreatDoorGenAll
import Derived.Test.YthdfmpocknmleaaGreatDoorOk
namespace Go.Proofs.YthdfmpocknmleaaGreatDoor
open Go.Sim

theorem around_ok {p n : Int} (hp : I64 p) : Ok (fref01_Around p n) (fun r => 0 ≤ r ∧ (1 ≤ n → r < n) ∧ (n ≤ 0 → r = 0)) := by
  have hp' := hp
  unfold I64 at hp'
  have key : ∀ q : Int, 0 ≤ q → Ok (if decide (n < 1) = true then some 0 else (nz n).bind fun _ => some (Int.tmod q n)) (fun r => 0 ≤ r ∧ (1 ≤ n → r < n) ∧ (n ≤ 0 → r = 0)) := fun q hq => by
    refine Ok.ite (fun h => ?_) (fun h => ?_)
    · have : n < 1 := of_decide_eq_true h
      exact Ok.mk ⟨Int.le_refl _, fun h => by omega, fun _ => rfl⟩
    · have : ¬ n < 1 := of_decide_eq_false h
      rw [nz_of (by omega)]
      exact Ok.mk ⟨Int.tmod_nonneg _ hq, fun _ => Int.tmod_lt_of_pos _ (by omega), fun h => by omega⟩
  unfold fref01_Around
  refine Ok.bind (P := fun q => 0 ≤ q) (Ok.ite (fun h => ?_) (fun h => ?_)) (fun q hq => key q hq)
  · have : p < 0 := of_decide_eq_true h
    refine Ok.mk ?_
    have e1 : IntKind.i64.wrap (p + 1) = p + 1 := w64 (by omega) (by omega)
    rw [e1, w64 (by omega) (by omega)]; omega
  · have : ¬ p < 0 := of_decide_eq_false h
    exact Ok.mk (by omega)

section
variable {β : Type} {Q : β → Prop}
theorem Ok.around {p n : Int} {f : Int → Option β} (hp : I64 p) (hn : 1 ≤ n) (k : ∀ r, 0 ≤ r → r < n → Ok (f r) Q) : Ok ((fref01_Around p n).bind f) Q :=
  (around_ok hp).bind fun r h => k r h.1 (h.2.1 hn)
theorem Ok.around0 {p n : Int} {f : Int → Option β} (hp : I64 p) (k : ∀ r, 0 ≤ r → (1 ≤ n → r < n) → Ok (f r) Q) : Ok ((fref01_Around p n).bind f) Q :=
  (around_ok hp).bind fun r h => k r h.1 h.2.1

def MOk (m : Sref09_Maker) : Prop := ∀ x ∈ m.L, I64 x
theorem take_ok {m : Sref09_Maker} {n : Int} (hm : MOk m) (hn : 1 ≤ n) : Ok (fref09_Maker_Take m n) (fun r => 0 ≤ r.1 ∧ r.1 < n ∧ MOk r.2) := by
  unfold fref09_Maker_Take fref01_At
  refine Ok.bind (P := fun r => 0 ≤ r ∧ r < n) (Ok.ite (fun h => Ok.mk ⟨Int.le_refl _, by omega⟩) (fun h => ?_)) (fun r hr => Ok.mk ⟨hr.1, hr.2, hm⟩)
  simp only [Bool.or_eq_false_iff, decide_eq_false_iff_not] at h
  refine Ok.idx (by omega) (by omega) fun v hv _ => ?_
  exact Ok.around (hm v hv) hn fun r h0 h1 => Ok.mk ⟨h0, h1⟩
theorem Ok.take {m : Sref09_Maker} {n : Int} {f : Int × Sref09_Maker → Option β} (hm : MOk m) (hn : 1 ≤ n) (k : ∀ r m', 0 ≤ r → r < n → MOk m' → Ok (f (r, m')) Q) : Ok ((fref09_Maker_Take m n).bind f) Q :=
  (take_ok hm hn).bind fun r h => k r.1 r.2 h.1 h.2.1 h.2.2
end

/-- A field of the generators. -/
def FOk (f : Sapi_Field) : Prop := f.Words.length ≤ 6 ∧ f.Weights.length ≤ 6
/-- A kind of the generators, with at most n fields. -/
def KOk (n : Nat) (k : Sapi_Kind) : Prop := k.Fields.length ≤ n ∧ ∀ f ∈ k.Fields, FOk f

theorem has_ok {l : List Sapi_Field} {name : Str} (hl : l.length ≤ 1000) : Ok (fref09_has l name) (fun r => -1 ≤ r ∧ r < l.length) := by
  unfold fref09_has
  refine Ok.bind (P := fun e => match e with | .inl _ => True | .inr r => 0 ≤ r ∧ r < l.length) (Ok.loop (fun k s => 0 ≤ s ∧ s + k = l.length) l.length ⟨by omega, by omega⟩ fun k s hs => ?_) (fun e he => ?_)
  · refine Ok.ite (fun h => ?_) (fun h => Ok.mk trivial)
    have h' : s < l.length := of_decide_eq_true h
    refine Ok.idx hs.1 h' fun v _ _ => Ok.ite (fun _ => Ok.mk ⟨hs.1, h'⟩) (fun _ => Ok.mk ?_)
    rw [w64 (by omega) (by omega)]
    exact ⟨k - 1, by omega, by omega, by omega⟩
  · rcases e with e | e
    · exact Ok.mk ⟨by omega, by omega⟩
    · exact Ok.mk ⟨by omega, he.2⟩
theorem copied_ok {k : Sapi_Kind} (hl : k.Fields.length ≤ 1000) : Ok (fref09_Copied k) (fun r => -1 ≤ r ∧ r < k.Fields.length) := by
  unfold fref09_Copied
  refine Ok.bind (P := fun e => match e with | .inl _ => True | .inr r => 0 ≤ r ∧ r < k.Fields.length) (Ok.loop (fun n s => 0 ≤ s ∧ s + n = k.Fields.length) k.Fields.length ⟨by omega, by omega⟩ fun n s hs => ?_) (fun e he => ?_)
  · refine Ok.ite (fun h => ?_) (fun h => Ok.mk trivial)
    have h' : s < k.Fields.length := of_decide_eq_true h
    refine Ok.idx hs.1 h' fun v _ _ => Ok.ite (fun _ => Ok.mk ⟨hs.1, h'⟩) (fun _ => Ok.mk ?_)
    rw [w64 (by omega) (by omega)]
    exact ⟨n - 1, by omega, by omega, by omega⟩
  · rcases e with e | e
    · exact Ok.mk ⟨by omega, by omega⟩
    · exact Ok.mk ⟨by omega, he.2⟩

theorem plain_ok {m : Sref09_Maker} (hm : MOk m) : Ok (fref09_Maker_plain m) (fun r => r.1.length ≤ 2 ∧ (∀ f ∈ r.1, FOk f) ∧ MOk r.2) := by
  unfold fref09_Maker_plain
  refine Ok.take hm (by decide) fun r m1 _ _ h1 => ?_
  refine Ok.ite (fun _ => ?_) (fun _ => ?_)
  · refine Ok.take h1 (by decide) fun r2 m2 _ _ h2 => Ok.take h2 (by decide) fun r3 m3 _ _ h3 => Ok.mk ⟨by simp, by simp [FOk], h3⟩
  refine Ok.ite (fun _ => ?_) (fun _ => ?_)
  · refine Ok.take h1 (by decide) fun r2 m2 h20 h21 h2 => ?_
    have hr2 : IntKind.i64.wrap (1 + r2) = 1 + r2 := w64 (by omega) (by omega)
    refine Ok.sub (by decide) (by dsimp only; rw [hr2]; omega) (by dsimp only; rw [hr2]; simp; omega) fun w hw _ => ?_
    dsimp only at hw
    rw [hr2] at hw
    have hwl : 1 ≤ w.length ∧ w.length ≤ 3 := by omega
    refine Ok.bind (P := fun r => r.1.length = w.length ∧ MOk r.2) (Ok.loop (fun k s => 0 ≤ s.1 ∧ s.1 + k = w.length ∧ s.2.1.length = s.1 ∧ MOk s.2.2) w.length ⟨Int.le_refl _, by simp, by simp, h2⟩ fun k s hs => ?_) (fun p hp => ?_)
    · obtain ⟨i, ws, m3⟩ := s
      obtain ⟨e1, e2, e3, e4⟩ := hs
      dsimp only at e1 e2 e3 e4
      refine Ok.ite (fun h => ?_) (fun h => ?_)
      · have h' : i < w.length := of_decide_eq_true h
        refine Ok.take e4 (by decide) fun r4 m4 _ _ h4 => Ok.rm (by simp; omega) (Ok.mk ?_)
        dsimp only
        rw [w64 (by omega) (by omega)]
        exact ⟨k - 1, by omega, by omega, by omega, by simp; omega, h4⟩
      · have h' : ¬ i < w.length := of_decide_eq_false h
        exact Ok.mk ⟨by dsimp only; omega, e4⟩
    · refine Ok.take hp.2 (by omega) fun r4 m4 h40 h41 h4 => Ok.take h4 (by decide) fun r5 m5 _ _ h5 => ?_
      refine Ok.setAt h40 (by dsimp only; omega) (Ok.mk ⟨by simp, ?_, h5⟩)
      intro f hf
      rw [List.mem_singleton] at hf
      subst hf
      refine ⟨by dsimp only; omega, ?_⟩
      simp only [List.length_set]; omega
  refine Ok.ite (fun _ => ?_) (fun _ => ?_)
  · refine Ok.take h1 (by decide) fun r2 m2 _ _ h2 => Ok.take h2 (by decide) fun r3 m3 _ _ h3 => Ok.take h3 (by decide) fun r4 m4 _ _ h4 => Ok.take h4 (by decide) fun r5 m5 _ _ h5 => Ok.mk ⟨by simp, by simp [FOk], h5⟩
  refine Ok.ite (fun _ => ?_) (fun _ => ?_)
  · refine Ok.take h1 (by decide) fun r2 m2 _ _ h2 => Ok.take h2 (by decide) fun r3 m3 _ _ h3 => Ok.mk ⟨by simp, by simp [FOk], h3⟩
  refine Ok.ite (fun _ => ?_) (fun _ => ?_)
  · refine Ok.take h1 (by decide) fun r2 m2 _ _ h2 => Ok.take h2 (by decide) fun r3 m3 _ _ h3 => Ok.take h3 (by decide) fun r4 m4 _ _ h4 => Ok.take h4 (by decide) fun r5 m5 _ _ h5 => Ok.mk ⟨by simp, by simp [FOk], h5⟩
  · exact Ok.mk ⟨by simp, by simp, h1⟩

end Go.Proofs.YthdfmpocknmleaaGreatDoor
