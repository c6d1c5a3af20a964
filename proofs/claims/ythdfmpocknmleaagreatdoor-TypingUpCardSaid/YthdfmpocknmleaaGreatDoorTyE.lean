/- The schemas of the laws are small. No condition. -/
import Derived.Test.YthdfmpocknmleaaGreatDoorTyD
namespace Go.Proofs.YthdfmpocknmleaaGreatDoor
open Go.Sim

def FZ (f : Sapi_Field) : Prop := f.Words.length ≤ 7 ∧ f.Weights.length ≤ 7
def KA (l : List Sapi_Kind) : Prop := l.length ≤ 3 ∧ ∀ k ∈ l, k.Fields.length ≤ 14 ∧ ∀ f ∈ k.Fields, FZ f
def LA (l : List Sapi_Life) : Prop := l.length ≤ 1 ∧ ∀ m ∈ l, m.States.length ≤ 7 ∧ m.Moves.length ≤ 9
/-- A schema of the laws. -/
def Sz (x : Sapi_Schema) : Prop := KA x.Kinds ∧ LA x.Lives ∧ x.Rules.length ≤ 4
theorem FOk.z {f : Sapi_Field} (h : FOk f) : FZ f := ⟨by have := h.1; omega, by have := h.2; omega⟩
theorem SOk.sz {n : Nat} {x : Sapi_Schema} (h : SOk n x) (hn : n ≤ 4) : Sz x :=
  ⟨⟨h.1, fun k hk => ⟨(h.2.1 k hk).1, fun f hf => ((h.2.1 k hk).2 f hf).z⟩⟩, ⟨h.2.2.1, fun m hm => ⟨by have := (h.2.2.2.1 m hm).1; omega, by have := (h.2.2.2.1 m hm).2; omega⟩⟩, Nat.le_trans h.2.2.2.2 hn⟩

theorem spoilt_ok {x : Sapi_Schema} {a h b : Int} (hx : SOk 2 x) (ha : I64 a) (hh : I64 h) (hb : I64 b) : Ok (fref09_Spoilt x a h b) Sz := by
  have hz := hx.sz (by decide)
  obtain ⟨x1, x2, x3, x4, x5⟩ := hx
  obtain ⟨zk, zl, zr⟩ := hz
  unfold fref09_Spoilt
  simp only [List.nil_append, List.length_nil, Nat.zero_add]
  refine Ok.rm (by omega) (Ok.rm (by omega) (Ok.rm (by omega) ?_))
  refine Ok.around0 ha fun i i0 i1 => Ok.around hh (by decide) fun w w0 w1 => ?_
  refine Ok.bind (P := fun p : List Sapi_Kind × List Sapi_Life × List Sapi_Rule × Int => KA p.1 ∧ LA p.2.1 ∧ p.2.2.1.length ≤ 4) (Ok.ite (fun _ => ?_) (fun _ => ?_)) fun p hp => Ok.mk hp
  · exact Ok.around hb (by decide) fun j j0 j1 => Ok.idx j0 (by simpa using j1) fun _ _ _ => Ok.mk ⟨zk, zl, zr⟩
  refine Ok.bind (P := fun p : List Sapi_Life × List Sapi_Rule × List Sapi_Kind => KA p.2.2 ∧ LA p.1 ∧ p.2.1.length ≤ 4) (Ok.ite (fun _ => ?_) (fun _ => ?_)) fun p hp => Ok.mk hp
  · refine Ok.bind (P := KA) (Ok.ite (fun hc => ?_) (fun _ => Ok.mk zk)) fun p hp => Ok.mk ⟨hp, zl, zr⟩
    have hc' : i < x.Kinds.length := of_decide_eq_true hc
    exact Ok.around hb (by decide) fun j j0 j1 => Ok.idx j0 (by simpa using j1) fun _ _ _ => Ok.idx i0 hc' fun k hk _ => Ok.setAt i0 hc' (Ok.mk ⟨by simpa using x1, all_set zk.2 (zk.2 k hk)⟩)
  refine Ok.bind (P := fun p : List Sapi_Life × List Sapi_Rule × List Sapi_Kind => KA p.2.2 ∧ LA p.1 ∧ p.2.1.length ≤ 4) (Ok.ite (fun _ => ?_) (fun _ => ?_)) fun p hp => Ok.mk hp
  · refine Ok.bind (P := KA) (Ok.ite (fun hc => ?_) (fun _ => Ok.mk zk)) fun p hp => Ok.mk ⟨hp, zl, zr⟩
    have hc' : i < x.Kinds.length := of_decide_eq_true hc
    exact Ok.around hb (by decide) fun j j0 j1 => Ok.idx j0 (by simpa using j1) fun _ _ _ => Ok.idx i0 hc' fun k hk _ => Ok.setAt i0 hc' (Ok.mk ⟨by simpa using x1, all_set zk.2 (zk.2 k hk)⟩)
  refine Ok.bind (P := fun p : List Sapi_Life × List Sapi_Rule × List Sapi_Kind => KA p.2.2 ∧ LA p.1 ∧ p.2.1.length ≤ 4) (Ok.ite (fun _ => ?_) (fun _ => ?_)) fun p hp => Ok.mk hp
  · refine Ok.bind (P := KA) (Ok.ite (fun hc => ?_) (fun _ => Ok.mk zk)) fun p hp => Ok.mk ⟨hp, zl, zr⟩
    have hc' : i < x.Kinds.length := of_decide_eq_true hc
    exact Ok.around hb (by decide) fun j j0 j1 => Ok.idx j0 (by simpa using j1) fun _ _ _ => Ok.idx i0 hc' fun k hk _ => Ok.setAt i0 hc' (Ok.mk ⟨by simpa using x1, all_set zk.2 (zk.2 k hk)⟩)
  refine Ok.bind (P := fun p : List Sapi_Kind × List Sapi_Rule × List Sapi_Life => KA p.1 ∧ LA p.2.2 ∧ p.2.1.length ≤ 4) (Ok.ite (fun _ => ?_) (fun _ => ?_)) fun p hp => Ok.mk hp
  · refine Ok.bind (P := LA) (Ok.ite (fun hc => ?_) (fun _ => Ok.mk zl)) fun p hp => Ok.mk ⟨zk, hp, zr⟩
    have hc' : (0:Int) < x.Lives.length := of_decide_eq_true hc
    refine Ok.idx (by decide) hc' fun m hm _ => ?_
    have hm' := x4 m hm
    exact Ok.rm (by omega) (Ok.around hb (by decide) fun j j0 j1 => Ok.around (w64_range _) (by decide) fun q q0 q1 => Ok.rm (by simp; omega) (Ok.idx (by decide) hc' fun m2 hm2 _ => Ok.setAt (by decide) hc' (Ok.mk ⟨by simpa using x3, all_set zl.2 ⟨(zl.2 m2 hm2).1, by simp; omega⟩⟩)))
  refine Ok.bind (P := fun p : List Sapi_Kind × List Sapi_Life × List Sapi_Rule => KA p.1 ∧ LA p.2.1 ∧ p.2.2.length ≤ 4) (Ok.ite (fun _ => ?_) (fun _ => ?_)) fun p hp => Ok.mk hp
  · exact Ok.around hb (by decide) fun j j0 j1 => Ok.idx j0 (by simpa using j1) fun _ _ _ => Ok.around (w64_range _) (by decide) fun j j0 j1 => Ok.idx j0 (by simpa using j1) fun _ _ _ => Ok.around (w64_range _) (by decide) fun j j0 j1 => Ok.idx j0 (by simpa using j1) fun _ _ _ => Ok.around hb (by decide) fun _ _ _ => Ok.rm (by simp; omega) (Ok.mk ⟨zk, zl, by simp; omega⟩)
  refine Ok.bind (P := fun p : List Sapi_Kind × List Sapi_Life => KA p.1 ∧ LA p.2) (Ok.ite (fun _ => ?_) (fun _ => ?_)) fun p hp => Ok.mk ⟨hp.1, hp.2, zr⟩
  · refine Ok.bind (P := LA) (Ok.ite (fun hc => ?_) (fun _ => Ok.mk zl)) fun p hp => Ok.mk ⟨zk, hp⟩
    have hc' : (0:Int) < x.Lives.length := of_decide_eq_true hc
    refine Ok.idx (by decide) hc' fun m hm _ => ?_
    have hm' := x4 m hm
    exact Ok.rm (by omega) (Ok.around hb (by decide) fun j j0 j1 => Ok.idx j0 (by simpa using j1) fun _ _ _ => Ok.rm (by simp; omega) (Ok.idx (by decide) hc' fun m2 hm2 _ => Ok.setAt (by decide) hc' (Ok.mk ⟨by simpa using x3, all_set zl.2 ⟨by simp; omega, (zl.2 m2 hm2).2⟩⟩)))
  refine Ok.bind (P := KA) (Ok.ite (fun hc => ?_) (fun _ => Ok.mk zk)) fun p hp => Ok.mk ⟨hp, zl⟩
  have hc' : i < x.Kinds.length := of_decide_eq_true hc
  refine Ok.idx i0 hc' fun k hk _ => ?_
  have hk' := x2 k hk
  have hk1 := hk'.1
  refine Ok.rm (by omega) (Ok.around0 (w64_range _) fun j j0 _ => ?_)
  refine Ok.bind (P := fun p : List Sapi_Field => p.length ≤ 14 ∧ ∀ f ∈ p, FZ f) (Ok.ite (fun hj => ?_) (fun _ => Ok.mk (zk.2 k hk))) fun fs hfs => Ok.idx i0 hc' fun k2 hk2 _ => Ok.setAt i0 hc' (Ok.mk ⟨by simpa using x1, all_set zk.2 hfs⟩)
  have hj' : j < k.Fields.length := of_decide_eq_true hj
  exact Ok.idx j0 hj' fun f hf _ => (spoiltField_ok (hk'.2 f hf) (w64_range _) hb).bind fun g hg => Ok.setAt j0 hj' (Ok.mk ⟨by simpa using hk1, all_set (zk.2 k hk).2 hg⟩)

theorem some_ok {l : List Int} {a h b : Int} (hl : ∀ x ∈ l, I64 x) (ha : I64 a) (hh : I64 h) (hb : I64 b) : Ok (flaw10_some l a h b) (fun xs => xs.length = 5 ∧ ∀ x ∈ xs, Sz x) := by
  unfold flaw10_some
  refine (schema_ok hl).bind fun x hx => (bent_ok hx (by decide) ha hh hb).bind fun y hy => (bent_ok hy (by decide) hb (w64_range _) ha).bind fun z hz => (spoilt_ok hx ha hh hb).bind fun s hs => Ok.mk ⟨rfl, ?_⟩
  intro q hq
  simp only [List.mem_cons, List.not_mem_nil, or_false] at hq
  rcases hq with rfl | rfl | rfl | rfl | rfl
  · exact hx.sz (by decide)
  · exact hy.sz (by decide)
  · exact hz.sz (by decide)
  · exact hs
  · exact ⟨⟨by simp, by simp⟩, ⟨by simp, by simp⟩, by simp⟩

end Go.Proofs.YthdfmpocknmleaaGreatDoor
