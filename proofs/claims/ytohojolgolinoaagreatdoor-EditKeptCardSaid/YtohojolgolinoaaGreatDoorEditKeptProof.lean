/- EditKept: the given row and its card. No condition. -/
import Derived.Test.YtohojolgolinoaaGreatDoorNkI
import Derived.Test.YtohojolgolinoaaGreatDoorLift
import Derived.Test.YtohojolgolinoaaGreatDoorLaid
import Derived.Test.YtohojolgolinoaaGreatDoorJf
import Derived.Test.YtohojolgolinoaaGreatDoorCards
import Derived.Test.YtohojolgolinoaaGreatDoorTie
import Derived.OpenShut
import Derived.Stop.Joined
open List Go.Proofs.Tryz
namespace Go.Proofs.YtohojolgolinoaaGreatDoor
open Go.Sim Go.ChangeShapes Go.WideShapes Go.ChangeAt Go.RowKit

theorem own:ownKnob prog.godebug=none:=kr
theorem laidOut:laidOutB prog=true:=kr

/-- The door's own heap meets the condition. -/
theorem door_met (os:Os) (args:Array Value):laidMetH prog Rows.editKeptRow.laid ((World.doorLaid prog 4000 os).forCall (fun _ _=>0) ⟨#[],args,[]⟩).memory:=
  laidMetH_of_parts3 (fuel:=8) (laidMet_of_run' 8 kr kr) kr kr

set_option maxRecDepth 100000 in
theorem editKept_lifted (os:Os) (f:os.Started) (H:Type) (enc:TypeId×Value→H):
    ReturnsInHanded {} checked os 3 .any (fun w args=>(Rows.editKeptSpec.pre enc prog f3 [] false w args∧laidMetH prog Rows.editKeptRow.laid w)∧sizedMet enc prog f3 (OpenSpec.ofChange Rows.editKeptSpec) false w args)
      (Rows.editKeptSpec.post enc prog f3 false true false false):=by
  refine returnsInHanded_of_change_and (C:=checked) (X:=fun w _=>laidMetH prog Rows.editKeptRow.laid w) (fun _ _ _ K h=>h.of_heap K) own f kr func3
    (ChangeSpec.witness_shaped (enc:=enc) (C:=checked) (os:=os) (X:=fun w _=>laidMetH prog Rows.editKeptRow.laid w) false (World.doorLaid prog 4000 os) #[.slice none 0 0,.slice none 0 0,.slice none 0 0,.int .i64 0] 8 rfl (World.shaped_of_RefB kr kr) kr kr kr (door_met os _)) ?_
  intro W o args ds gs i g u _ _ L _
  have a:∀(j:Nat) t v,f3.params[j]?=some t→args[j]?=some v→Value.okWide prog W .any o t v:=g
  have y:=u
  have l:∀p∈i,p.block<W.heap.size:=u.lt
  obtain⟨p,q,r,hV,rfl,M,N⟩:=u
  have hA:DataW.TrodAll enc prog W 0 (fun _=>true) true f3.params.toList args.toList ds p:=r
  rw[params3] at hA a
  obtain⟨v0,O,d0,P,Q,q0,e0,rfl,rfl,h0,hA⟩:=trodAll_cons hA
  obtain⟨v1,R,d1,S,T,q1,rfl,rfl,rfl,E,hA⟩:=trodAll_cons hA
  obtain⟨v2,U,d2,V,Y,q2,rfl,rfl,rfl,F,hA⟩:=trodAll_cons hA
  obtain⟨v3,Z,d3,a0,p3,q3,rfl,rfl,rfl,I,hA⟩:=trodAll_cons hA
  obtain⟨rfl,rfl,rfl⟩:=trodAll_nil hA
  have m:args=#[v0,v1,v2,v3]:=by cases args;simp_all
  subst m
  obtain⟨rfl,rfl⟩:=trodVars_none hV
  have⟨x0,i0,t0⟩:=PP underlying22 underlying3 kr (a 0 22 v0 rfl rfl) h0
  have⟨x1,i1,t1⟩:=PP underlying22 underlying3 kr (a 1 22 v1 rfl rfl) E
  have⟨x2,i2,t2⟩:=PP underlying22 underlying3 kr (a 2 22 v2 rfl rfl) F
  have⟨x3,i3,t3⟩:=d9 underlying3 (a 3 3 v3 rfl rfl) I
  clear r g
  have z:=eA.ok (eB x0 x1 x2 x3 i0 i1 i2 i3)
  refine (z (fun _=>False) W [v0,v1,v2,v3] (fun _ h=>h.elim) (fun A hA=>by cases mem_singleton.1 hA;exact⟨eC L,fun k B=>(Nq k B).elim⟩) (pairwise_singleton _ _) (.cons t0 (.cons t1 (.cons t2 (.cons (t3 _ _) .nil))))).mono ?_
  rintro e W' ⟨_,v,rfl,hg,_,hT⟩
  have hv:v=.bool true:=hT
  subst hv
  have hb:=Grow.below (hg.mono fun k ⟨A,hA,B⟩=>by cases mem_singleton.1 hA;exact (Nq k B).elim)
  have c:∀{t:TypeId} {v:Value} {d:DataW H} {D:List MemPlace},prog.readableRec t=true→t<prog.types.size→DataW.Trod enc prog W 0 (fun _=>true) true t v d D→(∀x∈D,x.block<W.heap.size)→
      DataW.Trod enc prog W' 0 (fun b=>decide (b<W.heap.size)) true t v d D:=fun hr s h hl=>Below.trod laidOut hr s h hb hl
  have l0:∀x∈Q,x.block<W.heap.size:=fun x hx=>l x (by simp[hx])
  have l1:∀x∈T,x.block<W.heap.size:=fun x hx=>l x (by simp[hx])
  have l2:∀x∈Y,x.block<W.heap.size:=fun x hx=>l x (by simp[hx])
  have l3:∀x∈p3,x.block<W.heap.size:=fun x hx=>l x (by simp[hx])
  have r3:prog.readableRec 3=true:=by kernel_rfl
  have z3:3<prog.types.size:=of_decide_eq_true kr
  have n:prog.readableRec 22=true:=by kernel_rfl
  have z22:22<prog.types.size:=of_decide_eq_true kr
  exact⟨_,rfl,_,_,_,[],_,[],y,trodAll_mk1 (shut_bool underlying4 true),
    trodAll_cons_mk (c n z22 h0 l0) (trodAll_cons_mk (c n z22 E l1) (trodAll_cons_mk (c n z22 F l2) (trodAll_cons_mk (c r3 z3 I l3) trodAll_mk0))),
    rfl,hb.frame _,fun h=>by cases h⟩

theorem editKept_holds:Rows.EditKeptSaid:=
  OpenClaim.holds_of_wide 3 f3 rfl rfl rfl rfl rfl rfl rfl ⟨rfl,rfl,rfl,rfl,rfl⟩ rfl rfl rfl rfl rfl kr func3 jf
    (of_decide_eq_true kr) (by unfold Func.isWrapper;first | (rw[if_pos (by decide+kernel)];kernel_rfl) | (rw[if_neg (by decide+kernel)];exact⟨rfl,rfl⟩))
    (fun os a H enc _=>editKept_lifted os a H enc)

theorem editKept_card:Rows.EditKeptCardSaid:=
  Claim7.holds_tied_plain_at .later [] [.data, .data, .data, .widerDeep, .funcs] true (true, "f76a34097fde33beebb02a2defd081b8d2801e95c7b03da73fc865d1b7531b87") true
    editKept_holds (fun _ h=>by cases h) kr (fun _ h=>by cases h) editKept_row_tie rfl ⟨rfl,rfl⟩ kr rfl
    (fun f c hf b=>by
      obtain rfl:f=3:=Option.some.inj ((show prog.funcNamed Rows.editKeptRow.func=some 3 by kernel_rfl).symm.trans hf) |>.symm
      obtain rfl:c=f3:=(Option.some.inj (func3.symm.trans b)).symm
      exact⟨kr,fun j t ht=>by
        rw[params3] at ht
        have hm:t∈[22,22,22,3]:=by
          have:=mem_of_getElem? (l:=[22,22,22,3]) (i:=j) (a:=t) (sa ht)
          exact this
        simp only[mem_cons,not_mem_nil,or_false] at hm
        rcases hm with rfl | rfl | rfl | rfl<;>(show prog.wantsStandIn _=false;kernel_rfl)⟩)
    kr

end Go.Proofs.YtohojolgolinoaaGreatDoor
