/- EditMost: the given row. No condition. -/
import Derived.Test.YtbggdodepjhliaaEdW
import Derived.Test.YtbggdodepjhliaaLift
import Derived.OpenShut
namespace Go.Proofs.Ytbggdodepjhliaa
open Go.Sim Go.ChangeShapes Go.WideShapes Go.ChangeAt Go.RowKit

theorem Try.own:ownKnob Try.prog.godebug=none:=by kernel_rfl
theorem Try.laidOut:laidOutB Try.prog=true:=by kernel_rfl

set_option maxRecDepth 100000 in
theorem editMost_lifted (os:Os) (started:os.Started) (H:Type) (enc:TypeId×Value→H):
    ReturnsInHanded {} Try.checked os 4 .any (Rows.editMostSpec.pre6 enc Try.prog Try.f4 Rows.editMostRow.domain false) (Rows.editMostSpec.post enc Try.prog Try.f4 false true false false):=by
  refine returnsInHanded_of_change (C:=Try.checked) Try.own started (by kernel_rfl) Try.func4
    (ChangeSpec.witness6 (enc:=enc) (C:=Try.checked) false ⟨#[],#[.slice none 0 0],[]⟩ 8 (by kernel_rfl) (by kernel_rfl) (by kernel_rfl) (by kernel_rfl)) ?_
  intro W base args ds gs before hval0 hW hcnd _
  have hval:∀(j:Nat) t v,Try.f4.params[j]?=some t→args[j]?=some v→Value.okWide Try.prog W .any base t v:=hval0
  have hW':=hW
  have hlt:∀p∈before,p.block<W.heap.size:=hW.lt
  obtain⟨p,q,hA0,hV,rfl,hfz,hnd⟩:=hW
  have hA:DataW.TrodAll enc Try.prog W 0 (fun _=>true) true Try.f4.params.toList args.toList ds p:=hA0
  rw[Try.params4] at hA hval
  obtain⟨v0,vs0,d0,ds0,p0,q0,e0,rfl,rfl,h0,hA⟩:=trodAll_cons hA
  obtain⟨rfl,rfl,rfl⟩:=trodAll_nil hA
  have eargs:args=#[v0]:=by cases args;simp_all
  subst eargs
  obtain⟨rfl,rfl⟩:=trodVars_none hV
  obtain⟨x0,i0,t0⟩:=Qg7 Try.underlying22 Try.underlying3 (by kernel_rfl) (hval 0 22 v0 rfl rfl) h0
  clear hA0 hval0
  have hok:=Qdz (QfB i0)
  refine (hok (fun _=>False) W [v0] (fun _ h=>h.elim) (fun _ h=>by cases h) .nil (.cons t0 .nil)).mono ?_
  rintro e W' ⟨_,v,rfl,hg,_,hT⟩
  have hv:v=.bool true:=hT
  subst hv
  have hb:=Grow.below (hg.mono fun _ ⟨_,h,_⟩=>by cases h)
  have keep:∀{t:TypeId} {v:Value} {d:DataW H} {ps:List MemPlace},Try.prog.readableRec t=true→t<Try.prog.types.size→DataW.Trod enc Try.prog W 0 (fun _=>true) true t v d ps→(∀x∈ps,x.block<W.heap.size)→
      DataW.Trod enc Try.prog W' 0 (fun b=>decide (b<W.heap.size)) true t v d ps:=fun hr hrow h hl=>Below.trod Try.laidOut hr hrow h hb hl
  have l0:∀x∈p0,x.block<W.heap.size:=fun x hx=>hlt x (by simp[hx])
  have r22:Try.prog.readableRec 22=true:=by kernel_rfl
  have z22:22<Try.prog.types.size:=of_decide_eq_true (by kernel_rfl)
  exact⟨_,rfl,_,_,_,[],_,[],hW',trodAll_mk1 (shut_bool Try.underlying4 true),
    (trodAll_cons_mk (keep r22 z22 h0 l0) trodAll_mk0),
    rfl,hb.frame _,fun h=>by cases h⟩

theorem editMost_holds:Rows.EditMostSaid:=
  OpenClaim.holds_of_wide 4 Try.f4 rfl rfl rfl rfl rfl rfl rfl ⟨rfl,rfl,rfl,rfl,rfl⟩ rfl rfl rfl rfl rfl (by kernel_rfl) Try.func4 (by kernel_rfl)
    (of_decide_eq_true (by kernel_rfl)) (by unfold Func.isWrapper;first | (rw[if_pos (by decide+kernel)];kernel_rfl) | (rw[if_neg (by decide+kernel)];exact⟨rfl,rfl⟩))
    (fun os started H enc _=>editMost_lifted os started H enc)

end Go.Proofs.Ytbggdodepjhliaa
