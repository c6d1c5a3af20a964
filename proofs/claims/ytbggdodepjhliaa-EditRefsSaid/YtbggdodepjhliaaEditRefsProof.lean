/- EditRefs: the given row. No condition. -/
import Derived.Test.YtbggdodepjhliaaEdT
import Derived.Test.YtbggdodepjhliaaLift
import Derived.OpenShut
namespace Go.Proofs.Ytbggdodepjhliaa
open Go.Sim Go.ChangeShapes Go.WideShapes Go.ChangeAt Go.RowKit

theorem Try.own:ownKnob Try.prog.godebug=none:=by kernel_rfl
theorem Try.laidOut:laidOutB Try.prog=true:=by kernel_rfl

set_option maxRecDepth 100000 in
theorem editRefs_lifted (os:Os) (started:os.Started) (H:Type) (enc:TypeId×Value→H):
    ReturnsInHanded {} Try.checked os 3 .any (Rows.editRefsSpec.pre6 enc Try.prog Try.f3 Rows.editRefsRow.domain false) (Rows.editRefsSpec.post enc Try.prog Try.f3 false true false false):=by
  refine returnsInHanded_of_change (C:=Try.checked) Try.own started (by kernel_rfl) Try.func3
    (ChangeSpec.witness6 (enc:=enc) (C:=Try.checked) false ⟨#[],#[.slice none 0 0,.slice none 0 0,.int .i64 0,.int .i64 0,.int .i64 0,.int .i64 0],[]⟩ 8 (by kernel_rfl) (by kernel_rfl) (by kernel_rfl) (by kernel_rfl)) ?_
  intro W base args ds gs before hval0 hW hcnd _
  have hval:∀(j:Nat) t v,Try.f3.params[j]?=some t→args[j]?=some v→Value.okWide Try.prog W .any base t v:=hval0
  have hW':=hW
  have hlt:∀p∈before,p.block<W.heap.size:=hW.lt
  obtain⟨p,q,hA0,hV,rfl,hfz,hnd⟩:=hW
  have hA:DataW.TrodAll enc Try.prog W 0 (fun _=>true) true Try.f3.params.toList args.toList ds p:=hA0
  rw[Try.params3] at hA hval
  obtain⟨v0,vs0,d0,ds0,p0,q0,e0,rfl,rfl,h0,hA⟩:=trodAll_cons hA
  obtain⟨v1,vs1,d1,ds1,p1,q1,rfl,rfl,rfl,h1,hA⟩:=trodAll_cons hA
  obtain⟨v2,vs2,d2,ds2,p2,q2,rfl,rfl,rfl,h2,hA⟩:=trodAll_cons hA
  obtain⟨v3,vs3,d3,ds3,p3,q3,rfl,rfl,rfl,h3,hA⟩:=trodAll_cons hA
  obtain⟨v4,vs4,d4,ds4,p4,q4,rfl,rfl,rfl,h4,hA⟩:=trodAll_cons hA
  obtain⟨v5,vs5,d5,ds5,p5,q5,rfl,rfl,rfl,h5,hA⟩:=trodAll_cons hA
  obtain⟨rfl,rfl,rfl⟩:=trodAll_nil hA
  have eargs:args=#[v0,v1,v2,v3,v4,v5]:=by cases args;simp_all
  subst eargs
  obtain⟨rfl,rfl⟩:=trodVars_none hV
  obtain⟨x0,i0,t0⟩:=Qfq Try.underlying22 Try.underlying3 (by kernel_rfl) (hval 0 22 v0 rfl rfl) h0
  obtain⟨x1,i1,t1⟩:=Qfq Try.underlying22 Try.underlying3 (by kernel_rfl) (hval 1 22 v1 rfl rfl) h1
  obtain⟨x2,i2,t2⟩:=Qdo Try.underlying3 (hval 2 3 v2 rfl rfl) h2
  obtain⟨x3,i3,t3⟩:=Qdo Try.underlying3 (hval 3 3 v3 rfl rfl) h3
  obtain⟨x4,i4,t4⟩:=Qdo Try.underlying3 (hval 4 3 v4 rfl rfl) h4
  obtain⟨x5,i5,t5⟩:=Qdo Try.underlying3 (hval 5 3 v5 rfl rfl) h5
  clear hA0 hval0
  have hok:=Qd5 (Qgk (raw:=x1) i0 i2 i3 i4 i5)
  refine (hok (fun _=>False) W [v0,v1,v2,v3,v4,v5] (fun _ h=>h.elim) (fun _ h=>by cases h) .nil (.cons t0 (.cons t1 (.cons (t2 _ _) (.cons (t3 _ _) (.cons (t4 _ _) (.cons (t5 _ _) .nil))))))).mono ?_
  rintro e W' ⟨_,v,rfl,hg,_,hT⟩
  have hv:v=.bool true:=hT
  subst hv
  have hb:=Grow.below (hg.mono fun _ ⟨_,h,_⟩=>by cases h)
  have keep:∀{t:TypeId} {v:Value} {d:DataW H} {ps:List MemPlace},Try.prog.readableRec t=true→t<Try.prog.types.size→DataW.Trod enc Try.prog W 0 (fun _=>true) true t v d ps→(∀x∈ps,x.block<W.heap.size)→
      DataW.Trod enc Try.prog W' 0 (fun b=>decide (b<W.heap.size)) true t v d ps:=fun hr hrow h hl=>Below.trod Try.laidOut hr hrow h hb hl
  have l0:∀x∈p0,x.block<W.heap.size:=fun x hx=>hlt x (by simp[hx])
  have l1:∀x∈p1,x.block<W.heap.size:=fun x hx=>hlt x (by simp[hx])
  have l2:∀x∈p2,x.block<W.heap.size:=fun x hx=>hlt x (by simp[hx])
  have l3:∀x∈p3,x.block<W.heap.size:=fun x hx=>hlt x (by simp[hx])
  have l4:∀x∈p4,x.block<W.heap.size:=fun x hx=>hlt x (by simp[hx])
  have l5:∀x∈p5,x.block<W.heap.size:=fun x hx=>hlt x (by simp[hx])
  have r3:Try.prog.readableRec 3=true:=by kernel_rfl
  have z3:3<Try.prog.types.size:=of_decide_eq_true (by kernel_rfl)
  have r22:Try.prog.readableRec 22=true:=by kernel_rfl
  have z22:22<Try.prog.types.size:=of_decide_eq_true (by kernel_rfl)
  exact⟨_,rfl,_,_,_,[],_,[],hW',trodAll_mk1 (shut_bool Try.underlying4 true),
    (trodAll_cons_mk (keep r22 z22 h0 l0) (trodAll_cons_mk (keep r22 z22 h1 l1) (trodAll_cons_mk (keep r3 z3 h2 l2) (trodAll_cons_mk (keep r3 z3 h3 l3) (trodAll_cons_mk (keep r3 z3 h4 l4) (trodAll_cons_mk (keep r3 z3 h5 l5) trodAll_mk0)))))),
    rfl,hb.frame _,fun h=>by cases h⟩

theorem editRefs_holds:Rows.EditRefsSaid:=
  OpenClaim.holds_of_wide 3 Try.f3 rfl rfl rfl rfl rfl rfl rfl ⟨rfl,rfl,rfl,rfl,rfl⟩ rfl rfl rfl rfl rfl (by kernel_rfl) Try.func3 (by kernel_rfl)
    (of_decide_eq_true (by kernel_rfl)) (by unfold Func.isWrapper;first | (rw[if_pos (by decide+kernel)];kernel_rfl) | (rw[if_neg (by decide+kernel)];exact⟨rfl,rfl⟩))
    (fun os started H enc _=>editRefs_lifted os started H enc)

end Go.Proofs.Ytbggdodepjhliaa
