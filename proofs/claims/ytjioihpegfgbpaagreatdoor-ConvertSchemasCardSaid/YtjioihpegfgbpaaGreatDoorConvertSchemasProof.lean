/- ConvertSchemas: the given row and its card. No condition. -/
import Derived.Test.YtjioihpegfgbpaaGreatDoorCvJ
import Derived.Test.YtjioihpegfgbpaaGreatDoorLift
import Derived.Test.YtjioihpegfgbpaaGreatDoorLaid
import Derived.Test.YtjioihpegfgbpaaGreatDoorCards
import Derived.Test.YtjioihpegfgbpaaGreatDoorTie
import Derived.OpenShut
import Derived.Stop.Joined
open List Go.Proofs.Tryz
namespace Go.Proofs.YtjioihpegfgbpaaGreatDoor
open Go.Sim Go.ChangeShapes Go.WideShapes Go.ChangeAt Go.RowKit

theorem own:ownKnob prog.godebug=none:=by kernel_rfl
theorem laidOut:laidOutB prog=true:=by kernel_rfl

/-- The door's own heap meets the condition. -/
theorem door_met (os:Os) (args:Array Value):laidMetH prog Rows.convertSchemasRow.laid ((World.doorLaid prog 4000 os).forCall (fun _ _=>0) ⟨#[],args,[]⟩).memory:=
 laidMetH_of_parts3 (fuel:=8) (laidMet_of_run' 8 (by kernel_rfl) (by kernel_rfl)) (by kernel_rfl) (by kernel_rfl)

set_option maxRecDepth 100000 in
theorem convertSchemas_lifted (os:Os) (started:os.Started) (H:Type) (enc:TypeId×Value→H):
  ReturnsInHanded {} checked os 3 .any (fun w args=>(Rows.convertSchemasSpec.pre enc prog f3 [] false w args∧laidMetH prog Rows.convertSchemasRow.laid w)∧sizedMet enc prog f3 (OpenSpec.ofChange Rows.convertSchemasSpec) false w args)
   (Rows.convertSchemasSpec.post enc prog f3 false true false false):=by
 refine returnsInHanded_of_change_and (C:=checked) (X:=fun w _=>laidMetH prog Rows.convertSchemasRow.laid w) (fun _ _ _ hh h=>h.of_heap hh) own started (by kernel_rfl) func3
  (ChangeSpec.witness_shaped (enc:=enc) (C:=checked) (os:=os) (X:=fun w _=>laidMetH prog Rows.convertSchemasRow.laid w) false (World.doorLaid prog 4000 os) #[.slice none 0 0,.slice none 0 0,.int .i64 0,.int .i64 0,.int .i64 0,.int .i64 0] 8 rfl (World.shaped_of_RefB (by kernel_rfl) (by kernel_rfl)) (by kernel_rfl) (by kernel_rfl) (by kernel_rfl) (door_met os _)) ?_
 intro W base args ds gs before hval0 hW _ _ hL _
 have hval:∀(j:Nat) t v,f3.params[j]?=some t→args[j]?=some v→Value.okWide prog W .any base t v:=hval0
 have hW':=hW
 have hlt:∀p∈before,p.block<W.heap.size:=hW.lt
 obtain⟨p,q,hA0,hV,rfl,hfz,hnd⟩:=hW
 have hA:DataW.TrodAll enc prog W 0 (fun _=>true) true f3.params.toList args.toList ds p:=hA0
 rw[params3] at hA hval
 obtain⟨v0,vs0,d0,ds0,p0,q0,e0,rfl,rfl,h0,hA⟩:=trodAll_cons hA
 obtain⟨v1,vs1,d1,ds1,p1,q1,rfl,rfl,rfl,h1,hA⟩:=trodAll_cons hA
 obtain⟨v2,vs2,d2,ds2,p2,q2,rfl,rfl,rfl,h2,hA⟩:=trodAll_cons hA
 obtain⟨v3,vs3,d3,ds3,p3,q3,rfl,rfl,rfl,h3,hA⟩:=trodAll_cons hA
 obtain⟨v4,vs4,d4,ds4,p4,q4,rfl,rfl,rfl,h4,hA⟩:=trodAll_cons hA
 obtain⟨v5,vs5,d5,ds5,p5,q5,rfl,rfl,rfl,h5,hA⟩:=trodAll_cons hA
 obtain⟨rfl,rfl,rfl⟩:=trodAll_nil hA
 have eargs:args=#[v0,v1,v2,v3,v4,v5]:=by cases args;simp_all
 subst eargs
 obtain⟨rfl,rfl⟩:=trodVars_none hV
 obtain⟨x0,i0,t0⟩:=Qp7 underlying22 underlying3 (by kernel_rfl) (hval 0 22 v0 rfl rfl) h0
 obtain⟨x1,i1,t1⟩:=Qp7 underlying22 underlying3 (by kernel_rfl) (hval 1 22 v1 rfl rfl) h1
 obtain⟨x2,i2,t2⟩:=Ql7 underlying3 (hval 2 3 v2 rfl rfl) h2
 obtain⟨x3,i3,t3⟩:=Ql7 underlying3 (hval 3 3 v3 rfl rfl) h3
 obtain⟨x4,i4,t4⟩:=Ql7 underlying3 (hval 4 3 v4 rfl rfl) h4
 obtain⟨x5,i5,t5⟩:=Ql7 underlying3 (hval 5 3 v5 rfl rfl) h5
 clear hA0 hval0
 have hok:=Qkx.ok (Qmj x0 x1 x2 x3 x4 x5 i0 i1 i2 i3 i4 i5)
 refine (hok (fun _=>False) W [v0,v1,v2,v3,v4,v5] (fun _ h=>h.elim) (fun A hA=>by cases mem_singleton.1 hA;exact⟨Qsj hL,fun k hk=>(Qq5 k hk).elim⟩) (pairwise_singleton _ _) (.cons t0 (.cons t1 (.cons (t2 _ _) (.cons (t3 _ _) (.cons (t4 _ _) (.cons (t5 _ _) .nil))))))).mono ?_
 rintro e W' ⟨_,v,rfl,hg,_,hT⟩
 have hv:v=.bool true:=hT
 subst hv
 have hb:=Grow.below (hg.mono fun k ⟨A,hA,hk⟩=>by cases mem_singleton.1 hA;exact (Qq5 k hk).elim)
 have keep:∀{t:TypeId} {v:Value} {d:DataW H} {ps:List MemPlace},prog.readableRec t=true→t<prog.types.size→DataW.Trod enc prog W 0 (fun _=>true) true t v d ps→(∀x∈ps,x.block<W.heap.size)→
   DataW.Trod enc prog W' 0 (fun b=>decide (b<W.heap.size)) true t v d ps:=fun hr hrow h hl=>Below.trod laidOut hr hrow h hb hl
 have l0:∀x∈p0,x.block<W.heap.size:=fun x hx=>hlt x (by simp[hx])
 have l1:∀x∈p1,x.block<W.heap.size:=fun x hx=>hlt x (by simp[hx])
 have l2:∀x∈p2,x.block<W.heap.size:=fun x hx=>hlt x (by simp[hx])
 have l3:∀x∈p3,x.block<W.heap.size:=fun x hx=>hlt x (by simp[hx])
 have l4:∀x∈p4,x.block<W.heap.size:=fun x hx=>hlt x (by simp[hx])
 have l5:∀x∈p5,x.block<W.heap.size:=fun x hx=>hlt x (by simp[hx])
 have r3:prog.readableRec 3=true:=by kernel_rfl
 have z3:3<prog.types.size:=of_decide_eq_true (by kernel_rfl)
 have r22:prog.readableRec 22=true:=by kernel_rfl
 have z22:22<prog.types.size:=of_decide_eq_true (by kernel_rfl)
 exact⟨_,rfl,_,_,_,[],_,[],hW',trodAll_mk1 (shut_bool underlying4 true),
  (trodAll_cons_mk (keep r22 z22 h0 l0) (trodAll_cons_mk (keep r22 z22 h1 l1) (trodAll_cons_mk (keep r3 z3 h2 l2) (trodAll_cons_mk (keep r3 z3 h3 l3) (trodAll_cons_mk (keep r3 z3 h4 l4) (trodAll_cons_mk (keep r3 z3 h5 l5) trodAll_mk0)))))),
  rfl,hb.frame _,fun h=>by cases h⟩

theorem convertSchemas_holds:Rows.ConvertSchemasSaid:=
 OpenClaim.holds_of_wide 3 f3 rfl rfl rfl rfl rfl rfl rfl ⟨rfl,rfl,rfl,rfl,rfl⟩ rfl rfl rfl rfl rfl (by kernel_rfl) func3 (by kernel_rfl)
  (of_decide_eq_true (by kernel_rfl)) (by unfold Func.isWrapper;first | (rw[if_pos (by decide+kernel)];kernel_rfl) | (rw[if_neg (by decide+kernel)];exact⟨rfl,rfl⟩))
  (fun os started H enc _=>convertSchemas_lifted os started H enc)

theorem convertSchemas_card:Rows.ConvertSchemasCardSaid:=
 Claim7.holds_tied_plain_at .later [] [.data, .data, .data, .widerDeep, .funcs, .funcs] true (true, "a119cc046434d9ff6d8051d2f95c1f97a636f1817edbb1217353960314d65f6d") true
  convertSchemas_holds (fun _ h=>by cases h) (by kernel_rfl) (fun _ h=>by cases h) convertSchemas_row_tie rfl ⟨rfl,rfl⟩ (by kernel_rfl) rfl
  (fun f fn hf hfn=>by
   obtain rfl:f=3:=Option.some.inj ((show prog.funcNamed Rows.convertSchemasRow.func=some 3 by kernel_rfl).symm.trans hf) |>.symm
   obtain rfl:fn=f3:=(Option.some.inj (func3.symm.trans hfn)).symm
   exact⟨by kernel_rfl,fun j t ht=>by
    rw[params3] at ht
    have hm:t∈[22,22,3,3,3,3]:=by
     have:=mem_of_getElem? (l:=[22,22,3,3,3,3]) (i:=j) (a:=t) (by simpa using ht)
     exact this
    simp only[mem_cons,not_mem_nil,or_false] at hm
    rcases hm with rfl | rfl | rfl | rfl | rfl | rfl<;>(show prog.wantsStandIn _=false;kernel_rfl)⟩)
  (by kernel_rfl)

end Go.Proofs.YtjioihpegfgbpaaGreatDoor
