/- EditNearest: the given row and its card. No condition. -/
import Derived.Test.YtmhcoofnnmiejaaGreatDoorNeM
import Derived.Test.YtmhcoofnnmiejaaGreatDoorLift
import Derived.Test.YtmhcoofnnmiejaaGreatDoorLaid
import Derived.Test.YtmhcoofnnmiejaaGreatDoorCards
import Derived.Test.YtmhcoofnnmiejaaGreatDoorTie
import Derived.OpenShut
import Derived.Stop.Joined
open List Go.Proofs.Tryz
namespace Go.Proofs.YtmhcoofnnmiejaaGreatDoor
open Go.Sim Go.ChangeShapes Go.WideShapes Go.ChangeAt Go.RowKit

theorem own:ownKnob prog.godebug=none:=by kernel_rfl
theorem laidOut:laidOutB prog=true:=by kernel_rfl

/-- The door's own heap meets the condition. -/
theorem door_met (os:Os) (args:Array Value):laidMetH prog Rows.editNearestRow.laid ((World.doorLaid prog 4000 os).forCall (fun _ _=>0) ⟨#[],args,[]⟩).memory:=
  laidMetH_of_parts3 (fuel:=8) (laidMet_of_run' 8 (by kernel_rfl) (by kernel_rfl)) (by kernel_rfl) (by kernel_rfl)

set_option maxRecDepth 100000 in
theorem editNearest_lifted (os:Os) (c:os.Started) (H:Type) (enc:TypeId×Value→H):
    ReturnsInHanded {} checked os 3 .any (fun w args=>(Rows.editNearestSpec.pre enc prog f3 [] false w args∧laidMetH prog Rows.editNearestRow.laid w)∧sizedMet enc prog f3 (OpenSpec.ofChange Rows.editNearestSpec) false w args)
      (Rows.editNearestSpec.post enc prog f3 false true false false):=by
  refine returnsInHanded_of_change_and (C:=checked) (X:=fun w _=>laidMetH prog Rows.editNearestRow.laid w) (fun _ _ _ I h=>h.of_heap I) own c (by kernel_rfl) func3
    (ChangeSpec.witness_shaped (enc:=enc) (C:=checked) (os:=os) (X:=fun w _=>laidMetH prog Rows.editNearestRow.laid w) false (World.doorLaid prog 4000 os) #[.slice none 0 0,.slice none 0 0,.slice none 0 0] 8 rfl (World.shaped_of_RefB (by kernel_rfl) (by kernel_rfl)) (by kernel_rfl) (by kernel_rfl) (by kernel_rfl) (door_met os _)) ?_
  intro W o args ds gs i f u _ _ K _
  have a:∀(j:Nat) t v,f3.params[j]?=some t→args[j]?=some v→Value.okWide prog W .any o t v:=f
  have y:=u
  have l:∀p∈i,p.block<W.heap.size:=u.lt
  obtain⟨p,q,r,hV,rfl,L,M⟩:=u
  have hA:DataW.TrodAll enc prog W 0 (fun _=>true) true f3.params.toList args.toList ds p:=r
  rw[params3] at hA a
  obtain⟨v0,N,d0,O,P,q0,e0,rfl,rfl,h0,hA⟩:=trodAll_cons hA
  obtain⟨v1,Q,d1,R,S,q1,rfl,rfl,rfl,E,hA⟩:=trodAll_cons hA
  obtain⟨v2,T,d2,U,V,q2,rfl,rfl,rfl,F,hA⟩:=trodAll_cons hA
  obtain⟨rfl,rfl,rfl⟩:=trodAll_nil hA
  have m:args=#[v0,v1,v2]:=by cases args;simp_all
  subst m
  obtain⟨rfl,rfl⟩:=trodVars_none hV
  obtain⟨x0,Y,t0⟩:=QnY underlying22 underlying3 (by kernel_rfl) (a 0 22 v0 rfl rfl) h0
  obtain⟨Z,i1,t1⟩:=QnY underlying22 underlying3 (by kernel_rfl) (a 1 22 v1 rfl rfl) E
  obtain⟨x2,i2,t2⟩:=QnY underlying22 underlying3 (by kernel_rfl) (a 2 22 v2 rfl rfl) F
  clear r f
  have z:=QmG.ok (QtV x0 Z x2 Y i1 i2)
  refine (z (fun _=>False) W [v0,v1,v2] (fun _ h=>h.elim) (fun A hA=>by cases mem_singleton.1 hA;exact⟨Quw K,fun k B=>(QsC k B).elim⟩) (pairwise_singleton _ _) (.cons t0 (.cons t1 (.cons t2 .nil)))).mono ?_
  rintro e W' ⟨_,v,rfl,hg,_,hT⟩
  have hv:v=.bool true:=hT
  subst hv
  have hb:=Grow.below (hg.mono fun k ⟨A,hA,B⟩=>by cases mem_singleton.1 hA;exact (QsC k B).elim)
  have g:∀{t:TypeId} {v:Value} {d:DataW H} {D:List MemPlace},prog.readableRec t=true→t<prog.types.size→DataW.Trod enc prog W 0 (fun _=>true) true t v d D→(∀x∈D,x.block<W.heap.size)→
      DataW.Trod enc prog W' 0 (fun b=>decide (b<W.heap.size)) true t v d D:=fun hr s h hl=>Below.trod laidOut hr s h hb hl
  have l0:∀x∈P,x.block<W.heap.size:=fun x hx=>l x (by simp[hx])
  have l1:∀x∈S,x.block<W.heap.size:=fun x hx=>l x (by simp[hx])
  have l2:∀x∈V,x.block<W.heap.size:=fun x hx=>l x (by simp[hx])
  have n:prog.readableRec 22=true:=by kernel_rfl
  have z22:22<prog.types.size:=of_decide_eq_true (by kernel_rfl)
  exact⟨_,rfl,_,_,_,[],_,[],y,trodAll_mk1 (shut_bool underlying4 true),
    (trodAll_cons_mk (g n z22 h0 l0) (trodAll_cons_mk (g n z22 E l1) (trodAll_cons_mk (g n z22 F l2) trodAll_mk0))),
    rfl,hb.frame _,fun h=>by cases h⟩

theorem editNearest_holds:Rows.EditNearestSaid:=
  OpenClaim.holds_of_wide 3 f3 rfl rfl rfl rfl rfl rfl rfl ⟨rfl,rfl,rfl,rfl,rfl⟩ rfl rfl rfl rfl rfl (by kernel_rfl) func3 (by kernel_rfl)
    (of_decide_eq_true (by kernel_rfl)) (by unfold Func.isWrapper;first | (rw[if_pos (by decide+kernel)];kernel_rfl) | (rw[if_neg (by decide+kernel)];exact⟨rfl,rfl⟩))
    (fun os a H enc _=>editNearest_lifted os a H enc)

theorem editNearest_card:Rows.EditNearestCardSaid:=
  Claim7.holds_tied_plain_at .later [] [.data, .data, .data, .widerDeep, .funcs] true (true, "ac4a958b8200fc011000f089ec30a0369b993312c644511a22a4dd8ad4ca42f9") true
    editNearest_holds (fun _ h=>by cases h) (by kernel_rfl) (fun _ h=>by cases h) editNearest_row_tie rfl ⟨rfl,rfl⟩ (by kernel_rfl) rfl
    (fun f c hf b=>by
      obtain rfl:f=3:=Option.some.inj ((show prog.funcNamed Rows.editNearestRow.func=some 3 by kernel_rfl).symm.trans hf) |>.symm
      obtain rfl:c=f3:=(Option.some.inj (func3.symm.trans b)).symm
      exact⟨by kernel_rfl,fun j t ht=>by
        rw[params3] at ht
        have hm:t∈[22,22,22]:=by
          have:=mem_of_getElem? (l:=[22,22,22]) (i:=j) (a:=t) (by simpa using ht)
          exact this
        simp only[mem_cons,not_mem_nil,or_false] at hm
        rcases hm with rfl | rfl | rfl<;>(show prog.wantsStandIn _=false;kernel_rfl)⟩)
    (by kernel_rfl)

end Go.Proofs.YtmhcoofnnmiejaaGreatDoor
