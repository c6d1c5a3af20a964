/- CoreNames: the given row and its card. No condition. -/
import Derived.Test.YtlajingmjmnfgaaGreatDoorCtI
import Derived.Test.YtlajingmjmnfgaaGreatDoorLift
import Derived.Test.YtlajingmjmnfgaaGreatDoorLaid
import Derived.Test.YtlajingmjmnfgaaGreatDoorCards
import Derived.Test.YtlajingmjmnfgaaGreatDoorTie
import Derived.OpenShut
import Derived.Stop.Joined
open List Go.Proofs.Tryz
namespace Go.Proofs.YtlajingmjmnfgaaGreatDoor
open Go.Sim Go.ChangeShapes Go.WideShapes Go.ChangeAt Go.RowKit

theorem own:ownKnob prog.godebug=none:=by kernel_rfl
theorem laidOut:laidOutB prog=true:=by kernel_rfl

/-- The door's own heap meets the condition. -/
theorem door_met (os:Os) (args:Array Value):laidMetH prog Rows.coreNamesRow.laid ((World.doorLaid prog 4000 os).forCall (fun _ _=>0) ⟨#[],args,[]⟩).memory:=
 laidMetH_of_parts3 (fuel:=8) (laidMet_of_run' 8 (by kernel_rfl) (by kernel_rfl)) (by kernel_rfl) (by kernel_rfl)

set_option maxRecDepth 100000 in
theorem coreNames_lifted (os:Os) (started:os.Started) (H:Type) (enc:TypeId×Value→H):
  ReturnsInHanded {} checked os 6 .any (fun w args=>(Rows.coreNamesSpec.pre enc prog f6 [] false w args∧laidMetH prog Rows.coreNamesRow.laid w)∧sizedMet enc prog f6 (OpenSpec.ofChange Rows.coreNamesSpec) false w args)
   (Rows.coreNamesSpec.post enc prog f6 false true false false):=by
 refine returnsInHanded_of_change_and (C:=checked) (X:=fun w _=>laidMetH prog Rows.coreNamesRow.laid w) (fun _ _ _ hh h=>h.of_heap hh) own started (by kernel_rfl) func6
  (ChangeSpec.witness_shaped (enc:=enc) (C:=checked) (os:=os) (X:=fun w _=>laidMetH prog Rows.coreNamesRow.laid w) false (World.doorLaid prog 4000 os) #[.slice none 0 0,.slice none 0 0,.slice none 0 0,.int .i64 0,.int .i64 0,.int .i64 0,.string ⟨#[]⟩] 8 rfl (World.shaped_of_RefB (by kernel_rfl) (by kernel_rfl)) (by kernel_rfl) (by kernel_rfl) (by kernel_rfl) (door_met os _)) ?_
 intro W base args ds gs before hval0 hW _ _ hL _
 have hval:∀(j:Nat) t v,f6.params[j]?=some t→args[j]?=some v→Value.okWide prog W .any base t v:=hval0
 have hW':=hW
 have hlt:∀p∈before,p.block<W.heap.size:=hW.lt
 obtain⟨p,q,hA0,hV,rfl,hfz,hnd⟩:=hW
 have hA:DataW.TrodAll enc prog W 0 (fun _=>true) true f6.params.toList args.toList ds p:=hA0
 rw[params6] at hA hval
 obtain⟨v0,vs0,d0,ds0,p0,q0,e0,rfl,rfl,h0,hA⟩:=trodAll_cons hA
 obtain⟨v1,vs1,d1,ds1,p1,q1,rfl,rfl,rfl,h1,hA⟩:=trodAll_cons hA
 obtain⟨v2,vs2,d2,ds2,p2,q2,rfl,rfl,rfl,h2,hA⟩:=trodAll_cons hA
 obtain⟨v3,vs3,d3,ds3,p3,q3,rfl,rfl,rfl,h3,hA⟩:=trodAll_cons hA
 obtain⟨v4,vs4,d4,ds4,p4,q4,rfl,rfl,rfl,h4,hA⟩:=trodAll_cons hA
 obtain⟨v5,vs5,d5,ds5,p5,q5,rfl,rfl,rfl,h5,hA⟩:=trodAll_cons hA
 obtain⟨v6,vs6,d6,ds6,p6,q6,rfl,rfl,rfl,h6,hA⟩:=trodAll_cons hA
 obtain⟨rfl,rfl,rfl⟩:=trodAll_nil hA
 have eargs:args=#[v0,v1,v2,v3,v4,v5,v6]:=by cases args;simp_all
 subst eargs
 obtain⟨rfl,rfl⟩:=trodVars_none hV
 obtain⟨x0,i0,t0⟩:=QmW underlying22 underlying3 (by kernel_rfl) (hval 0 22 v0 rfl rfl) h0
 obtain⟨x1,i1,t1⟩:=QmW underlying22 underlying3 (by kernel_rfl) (hval 1 22 v1 rfl rfl) h1
 obtain⟨x2,i2,t2⟩:=QmW underlying22 underlying3 (by kernel_rfl) (hval 2 22 v2 rfl rfl) h2
 obtain⟨x3,i3,t3⟩:=QnI underlying3 (hval 3 3 v3 rfl rfl) h3
 obtain⟨x4,i4,t4⟩:=QnI underlying3 (hval 4 3 v4 rfl rfl) h4
 obtain⟨x5,i5,t5⟩:=QnI underlying3 (hval 5 3 v5 rfl rfl) h5
 obtain⟨x6,i6,t6⟩:=Qxe underlying9 (hval 6 9 v6 rfl rfl) h6
 clear hA0 hval0
 have hok:=QmL.ok (Qo6 x0 x1 x2 x3 x4 x5 x6 i0 i1 i2 i3 i4 i5)
 refine (hok (fun _=>False) W [v0,v1,v2,v3,v4,v5,v6] (fun _ h=>h.elim) (fun A hA=>by cases mem_singleton.1 hA;exact⟨QrN hL,fun k hk=>(Qqw k hk).elim⟩) (pairwise_singleton _ _) (.cons t0 (.cons t1 (.cons t2 (.cons (t3 _ _) (.cons (t4 _ _) (.cons (t5 _ _) (.cons (t6 _ _) .nil)))))))).mono ?_
 rintro e W' ⟨_,v,rfl,hg,_,hT⟩
 have hv:v=.bool true:=hT
 subst hv
 have hb:=Grow.below (hg.mono fun k ⟨A,hA,hk⟩=>by cases mem_singleton.1 hA;exact (Qqw k hk).elim)
 have keep:∀{t:TypeId} {v:Value} {d:DataW H} {ps:List MemPlace},prog.readableRec t=true→t<prog.types.size→DataW.Trod enc prog W 0 (fun _=>true) true t v d ps→(∀x∈ps,x.block<W.heap.size)→
   DataW.Trod enc prog W' 0 (fun b=>decide (b<W.heap.size)) true t v d ps:=fun hr hrow h hl=>Below.trod laidOut hr hrow h hb hl
 have l0:∀x∈p0,x.block<W.heap.size:=fun x hx=>hlt x (by simp[hx])
 have l1:∀x∈p1,x.block<W.heap.size:=fun x hx=>hlt x (by simp[hx])
 have l2:∀x∈p2,x.block<W.heap.size:=fun x hx=>hlt x (by simp[hx])
 have l3:∀x∈p3,x.block<W.heap.size:=fun x hx=>hlt x (by simp[hx])
 have l4:∀x∈p4,x.block<W.heap.size:=fun x hx=>hlt x (by simp[hx])
 have l5:∀x∈p5,x.block<W.heap.size:=fun x hx=>hlt x (by simp[hx])
 have l6:∀x∈p6,x.block<W.heap.size:=fun x hx=>hlt x (by simp[hx])
 have r3:prog.readableRec 3=true:=by kernel_rfl
 have z3:3<prog.types.size:=of_decide_eq_true (by kernel_rfl)
 have r9:prog.readableRec 9=true:=by kernel_rfl
 have z9:9<prog.types.size:=of_decide_eq_true (by kernel_rfl)
 have r22:prog.readableRec 22=true:=by kernel_rfl
 have z22:22<prog.types.size:=of_decide_eq_true (by kernel_rfl)
 exact⟨_,rfl,_,_,_,[],_,[],hW',trodAll_mk1 (shut_bool underlying4 true),
  (trodAll_cons_mk (keep r22 z22 h0 l0) (trodAll_cons_mk (keep r22 z22 h1 l1) (trodAll_cons_mk (keep r22 z22 h2 l2) (trodAll_cons_mk (keep r3 z3 h3 l3) (trodAll_cons_mk (keep r3 z3 h4 l4) (trodAll_cons_mk (keep r3 z3 h5 l5) (trodAll_cons_mk (keep r9 z9 h6 l6) trodAll_mk0))))))),
  rfl,hb.frame _,fun h=>by cases h⟩

theorem coreNames_holds:Rows.CoreNamesSaid:=
 OpenClaim.holds_of_wide 6 f6 rfl rfl rfl rfl rfl rfl rfl ⟨rfl,rfl,rfl,rfl,rfl⟩ rfl rfl rfl rfl rfl (by kernel_rfl) func6 (by kernel_rfl)
  (of_decide_eq_true (by kernel_rfl)) (by unfold Func.isWrapper;first | (rw[if_pos (by decide+kernel)];kernel_rfl) | (rw[if_neg (by decide+kernel)];exact⟨rfl,rfl⟩))
  (fun os started H enc _=>coreNames_lifted os started H enc)

theorem coreNames_card:Rows.CoreNamesCardSaid:=
 Claim7.holds_tied_plain_at .later [] [.data, .data, .data, .widerDeep, .funcs] true (true, "b8d1129402c16e841bfb6af88fac4df4cc035dd9ac26a0a7708be56264c6b18e") true
  coreNames_holds (fun _ h=>by cases h) (by kernel_rfl) (fun _ h=>by cases h) coreNames_row_tie rfl ⟨rfl,rfl⟩ (by kernel_rfl) rfl
  (fun f fn hf hfn=>by
   obtain rfl:f=6:=Option.some.inj ((show prog.funcNamed Rows.coreNamesRow.func=some 6 by kernel_rfl).symm.trans hf) |>.symm
   obtain rfl:fn=f6:=(Option.some.inj (func6.symm.trans hfn)).symm
   exact⟨by kernel_rfl,fun j t ht=>by
    rw[params6] at ht
    have hm:t∈[22,22,22,3,3,3,9]:=by
     have:=mem_of_getElem? (l:=[22,22,22,3,3,3,9]) (i:=j) (a:=t) (by simpa using ht)
     exact this
    simp only[mem_cons,not_mem_nil,or_false] at hm
    rcases hm with rfl | rfl | rfl | rfl | rfl | rfl | rfl<;>(show prog.wantsStandIn _=false;kernel_rfl)⟩)
  (by kernel_rfl)

end Go.Proofs.YtlajingmjmnfgaaGreatDoor
