/- The changes of schemas give results. No condition. -/
import Derived.Test.YthdfmpocknmleaaGreatDoorTyC
namespace Go.Proofs.YthdfmpocknmleaaGreatDoor
open Go.Sim

theorem Ok.same {β : Type} {x : Option β} {Q : β → Prop} (h : Ok x Q) : Ok (x.bind fun p => some p) Q := h.bind fun _ hr => Ok.mk hr
theorem all_set {α : Type} {P : α → Prop} {l : List α} {i : Nat} {x : α} (h : ∀ y ∈ l, P y) (hx : P x) : ∀ y ∈ l.set i x, P y := fun y hy => (List.mem_or_eq_of_mem_set hy).elim (h y) fun e => e ▸ hx

theorem bent_ok {n : Nat} {x : Sapi_Schema} {a h b : Int} (hx : SOk n x) (hn : n ≤ 20) (ha : I64 a) (hh : I64 h) (hb : I64 b) : Ok (fref10_Bent x a h b) (SOk (n + 1)) := by
  obtain ⟨x1, x2, x3, x4, x5⟩ := hx
  unfold fref10_Bent
  simp only [List.nil_append, List.length_nil, Nat.zero_add]
  refine Ok.rm (by omega) (Ok.rm (by omega) ?_)
  refine Ok.ite (fun _ => Ok.mk ⟨x1, x2, x3, x4, by dsimp only; omega⟩) (fun h0 => ?_)
  have h0' : (x.Kinds.length : Int) ≠ 0 := by simpa using h0
  refine Ok.around ha (by omega) fun i i0 i1 => ?_
  refine Ok.idx i0 i1 fun kd hkd ekd => ?_
  have hkd' := x2 kd hkd
  have hk1 := hkd'.1
  refine Ok.rm (by omega) ?_
  refine Ok.around hb (by omega) fun i2 i20 i21 => ?_
  refine Ok.idx i20 i21 fun k2 _ _ => ?_
  refine Ok.idx (by decide) (by omega) fun k3 _ _ => ?_
  refine Ok.bind (P := fun p : List Str => 4 ≤ p.length ∧ p.length ≤ 18) (Ok.loop (fun k s => 0 ≤ s.1 ∧ s.1 + k = kd.Fields.length ∧ s.2.length = 4 + s.1) kd.Fields.length ⟨Int.le_refl _, by simp, by simp⟩ fun k s hs => ?_) (fun names hnm => ?_)
  · obtain ⟨j, ns⟩ := s
    obtain ⟨e1, e2, e3⟩ := hs
    dsimp only at e1 e2 e3
    refine Ok.ite (fun h => ?_) (fun h => Ok.mk ⟨by dsimp only; omega, by dsimp only; omega⟩)
    have h' : j < kd.Fields.length := of_decide_eq_true h
    refine Ok.idx e1 h' fun f _ _ => Ok.rm (by simp; omega) (Ok.mk ⟨k - 1, by omega, ?_⟩)
    dsimp only
    rw [w64 (n := j + 1) (by omega) (by omega)]
    exact ⟨by omega, by omega, by simp; omega⟩
  refine Ok.around hb (by omega) fun c c0 c1 => Ok.idx c0 c1 fun name _ _ => ?_
  refine Ok.around (w64_range _) (by unfold imax; split <;> omega) fun j j0 _ => ?_
  refine Ok.around hh (by decide) fun w w0 w1 => ?_
  refine Ok.bind (P := fun p : List Sapi_Field => p.length ≤ 14 ∧ ∀ f ∈ p, FOk f) (Ok.ite (fun hc => ?_) (fun _ => Ok.mk hkd')) fun fs hfs => ?_
  · simp only [Bool.and_eq_true, decide_eq_true_eq] at hc
    refine Ok.same (Ok.ite (fun _ => ?_) (fun _ => Ok.same (Ok.ite (fun _ => ?_) (fun _ => Ok.same (Ok.ite (fun _ => Ok.same (Ok.ite (fun _ => ?_) (fun _ => Ok.mk hkd'))) (fun _ => Ok.same (Ok.ite (fun _ => ?_) (fun _ => ?_))))))))
    · exact Ok.idx j0 hc.2 fun f hf _ => Ok.setAt j0 hc.2 (Ok.mk ⟨by simpa using hk1, all_set hkd'.2 (hkd'.2 f hf)⟩)
    · exact Ok.idx j0 hc.2 fun f hf _ => Ok.setAt j0 hc.2 (Ok.mk ⟨by simpa using hk1, all_set hkd'.2 (hkd'.2 f hf)⟩)
    · exact Ok.idx j0 hc.2 fun f hf _ => Ok.setAt j0 hc.2 (Ok.mk ⟨by simpa using hk1, all_set hkd'.2 (hkd'.2 f hf)⟩)
    · exact Ok.around hb (by omega) fun q q0 q1 => Ok.idx j0 hc.2 fun f hf _ => Ok.idx q0 q1 fun g hg _ => Ok.setAt j0 hc.2 (Ok.setAt q0 (by simpa using q1) (Ok.mk ⟨by simpa using hk1, all_set (all_set hkd'.2 (hkd'.2 g hg)) (hkd'.2 f hf)⟩))
    · refine Ok.sub (by decide) j0 (by omega) fun u hu hum => ?_
      rw [w64 (n := j + 1) (by omega) (by omega)]
      refine Ok.sub (by omega) (by omega) (by omega) fun v hv hvm => Ok.rm (by omega) (Ok.mk ⟨?_, fun f hf => (List.mem_append.1 hf).elim (fun h => hkd'.2 f (hum f h)) (fun h => hkd'.2 f (hvm f h))⟩)
      rw [List.length_append]; omega
  refine Ok.idx i0 i1 fun kd2 hkd2 _ => Ok.setAt i0 i1 ?_
  have all2 : ∀ k ∈ x.Kinds.set i.toNat { kd2 with Fields := fs }, KOk 14 k := all_set x2 hfs
  generalize hks : x.Kinds.set i.toNat { kd2 with Fields := fs } = ks at all2 ⊢
  have lks : ks.length = x.Kinds.length := by rw [← hks]; simp
  refine Ok.bind (P := fun p : List Sapi_Kind => p.length = x.Kinds.length ∧ ∀ k ∈ p, KOk 14 k) (Ok.ite (fun _ => ?_) (fun _ => Ok.mk ⟨lks, all2⟩)) fun ks2 hks2 => ?_
  · exact Ok.around hb (by omega) fun q q0 q1 => Ok.idx q0 q1 fun f hf _ => Ok.idx i0 (by omega) fun g hg _ => Ok.setAt q0 q1 (Ok.setAt i0 (by simp; omega) (Ok.mk ⟨by simp; omega, all_set (all_set all2 (all2 g hg)) (all2 f hf)⟩))
  refine Ok.bind (P := fun p : List Sapi_Rule => p.length ≤ n + 1 ∧ (w > 6 → p.length ≤ n)) (Ok.ite (fun h6 => ?_) (fun _ => Ok.mk ⟨by omega, fun _ => x5⟩)) fun rs hrs => ?_
  · have h6' : w = 6 := by simpa using h6
    refine Ok.idx i0 (by omega) fun k4 _ _ => Ok.around (w64_range _) (by omega) fun q q0 q1 => Ok.idx q0 q1 fun nm _ _ => Ok.rm (by simp; omega) (Ok.mk ⟨by simp; omega, fun h => by omega⟩)
  refine Ok.bind (P := fun p : List Sapi_Rule => p.length ≤ n + 1) (Ok.ite (fun hc => ?_) (fun _ => Ok.mk hrs.1)) fun rs2 hrs2 => Ok.mk ⟨by dsimp only; omega, hks2.2, x3, x4, hrs2⟩
  simp only [Bool.and_eq_true, decide_eq_true_eq] at hc
  have hr := hrs.2 hc.1
  refine Ok.around ha (by omega) fun q q0 q1 => Ok.same (Ok.ite (fun _ => ?_) (fun _ => ?_))
  · exact Ok.idx q0 q1 fun r _ _ => Ok.setAt q0 q1 (Ok.mk (by simp; omega))
  · exact Ok.idx q0 q1 fun r _ _ => Ok.rm (by simp; omega) (Ok.mk (by simp; omega))

theorem spoiltField_ok {f : Sapi_Field} {h b : Int} (hf : FOk f) (hh : I64 h) (hb : I64 b) : Ok (fref09_spoiltField f h b) (fun g => g.Words.length ≤ 7 ∧ g.Weights.length ≤ 7) := by
  obtain ⟨f1, f2⟩ := hf
  unfold fref09_spoiltField
  simp only [List.nil_append, List.length_nil, Nat.zero_add]
  have out : f.Words.length ≤ 7 ∧ f.Weights.length ≤ 7 := ⟨by omega, by omega⟩
  refine Ok.around hh (by decide) fun w w0 w1 => Ok.same (Ok.ite (fun _ => ?_) (fun _ => Ok.same (Ok.ite (fun _ => ?_) (fun _ => Ok.same (Ok.ite (fun _ => ?_) (fun _ => Ok.same (Ok.ite (fun _ => ?_) (fun _ => Ok.same (Ok.ite (fun _ => ?_) (fun _ => Ok.same (Ok.ite (fun _ => ?_) (fun _ => Ok.same (Ok.ite (fun _ => ?_) (fun _ => ?_))))))))))))))
  · exact Ok.around hb (by decide) fun _ _ _ => Ok.mk out
  · exact Ok.around hb (by decide) fun i i0 i1 => Ok.idx i0 (by simpa using i1) fun _ _ _ => Ok.mk out
  · exact Ok.around hb (by decide) fun i i0 i1 => Ok.idx i0 (by simpa using i1) fun _ _ _ => Ok.mk out
  · exact Ok.around hb (by decide) fun i i0 i1 => Ok.idx i0 (by simpa using i1) fun _ _ _ => Ok.mk out
  · exact Ok.around hb (by decide) fun i i0 i1 => Ok.idx i0 (by simpa using i1) fun _ _ _ => Ok.mk out
  · exact Ok.around hb (by decide) fun i i0 i1 => Ok.idx i0 (by simpa using i1) fun _ _ _ => Ok.mk out
  · exact Ok.rm (by omega) (Ok.around hb (by decide) fun i i0 i1 => Ok.idx i0 (by simpa using i1) fun _ _ _ => Ok.rm (by simp; omega) (Ok.rm (by omega) (Ok.around (w64_range _) (by decide) fun i i0 i1 => Ok.idx i0 (by simpa using i1) fun _ _ _ => Ok.rm (by simp; omega) (Ok.mk ⟨by simp; omega, by simp; omega⟩))))
  · exact Ok.mk' (by omega) (by omega) (Ok.mk ⟨out.1, by simp; omega⟩)

end Go.Proofs.YthdfmpocknmleaaGreatDoor
