/- Go functions as Lean functions, and the proofs that they compute them, written by a program. No condition. -/
import Derived.Test.YtlajingmjmnfgaaGreatDoorGenG
set_option linter.all false
open Go.Proofs.Tryz Go.IntKind
namespace Go.Proofs.YtlajingmjmnfgaaGreatDoor
open Go.Sim
set_option maxRecDepth 100000
set_option maxHeartbeats 4000000
noncomputable def QdH (x_:Qa):Option ((List Str)×Int):=(QeR x_).bind fun t0=>(if (t0.2 !=0)=true then (some (([]:List Str),t0.2)) else (QeS x_).bind fun t1=>(if (decide ((t1.limits.length:Int)>16))=true then (some (([]:List Str),(4:Int))) else (mk (x_.Kinds.length:Int) ([]:(List Int))).bind fun t2=>(Qo (fun (s0:Int×List (List Int))=>((if (decide (s0.1<(t2.length:Int)))=true then (Qcf t1 s0.1 (fun x0=>QgO x0)).bind fun t3=>(setAt s0.2 s0.1 t3).bind fun t4=>(some (.inl ((i64.wrap (s0.1+1)),t4))) else (some (.inr s0.2))):Option ((Int×List (List Int))⊕((List (List Int)))))) ((0:Int),t2)).bind fun p0=>(Qat t1 (fun x0=>QgO x0) (fun x0=>QfF x0 p0)).bind fun t5=>(if t5=true then (some (([]:List Str),(6:Int))) else (Qec (fun (s1:List Int) (m41:Int)=>((Qo (fun (s2:Int×List Int)=>((if (decide (s2.1<(x_.Kinds.length:Int)))=true then (nn s2.1).bind fun _=>((if ((iand .u64 (ishr .u64 m41 s2.1) (1:Int))==1)=true then (idx p0 s2.1).bind fun t6=>(rm (s2.2.length+t6.length)).bind fun _=>(idx p0 s2.1).bind fun t7=>((if (t7.isEmpty)=true then (mk (i64.wrap ((t0.1.length:Int)+1)) (0:Int)).bind fun t8=>(some t8) else (some (s2.2++t6)))).bind fun p1=>(some p1) else (some s2.2))).bind fun p2=>(some (.inl ((i64.wrap (s2.1+1)),p2))) else (some (.inr s2.2))):Option ((Int×List Int)⊕((List Int))))) ((0:Int),([]:List Int))).bind fun p3=>((Qec (fun (s3:List Int) (m1394:Int)=>((QbT m1394).bind fun t9=>(if (((!s3.isEmpty)&&(decide ((i64.wrap ((p3.length:Int)+t9))≥(s3.length:Int))))||(decide ((i64.wrap ((p3.length:Int)+t9))>(t0.1.length:Int))))=true then (some (.inr s3)) else (Qat t1 (fun x0=>QdS x0 m1394) (fun x0=>QdT x0 m41)).bind fun t10=>(if t10=true then (some (.inl s3)) else (Qo (fun (s4:Int×List Int)=>((if (decide (s4.1<(t1.limits.length:Int)))=true then (nn s4.1).bind fun _=>((if ((iand .u64 (ishr .u64 m1394 s4.1) (1:Int))==1)=true then (rm (s4.2.length+[s4.1].length)).bind fun _=>(some (s4.2++[s4.1])) else (some s4.2))).bind fun p4=>(some (.inl ((i64.wrap (s4.1+1)),p4))) else (some (.inr s4.2))):Option ((Int×List Int)⊕((List Int))))) ((0:Int),([]:List Int))).bind fun p5=>(Qo (fun (s5:Int×List Int)=>((if (decide (s5.1<(p3.length:Int)))=true then (idx p3 s5.1).bind fun t11=>(rm (s5.2.length+[(i64.wrap ((t1.limits.length:Int)+t11))].length)).bind fun _=>(some (.inl ((i64.wrap (s5.1+1)),(s5.2++[(i64.wrap ((t1.limits.length:Int)+t11))])))) else (some (.inr s5.2))):Option ((Int×List Int)⊕((List Int))))) ((0:Int),p5)).bind fun p6=>(some (.inr p6)))):Option ((List Int)⊕(List Int)))) s1 (t1.limits.length:Int)).bind fun t12=>(match t12 with | .inl s3=>(some s3) | .inr s3=>(some s3))).bind fun p7=>(some (.inl p7)):Option ((List Int)⊕(List Int)))) ([]:List Int) (x_.Kinds.length:Int)).bind fun t2=>(match t2 with | .inl s1=>(Qdb s1).bind fun t13=>(Qo (fun (s6:Int×List Str)=>((if (decide (s6.1<(t13.length:Int)))=true then (idx t13 s6.1).bind fun t14=>(idx t0.1 t14).bind fun t15=>(rm (s6.2.length+[t15].length)).bind fun _=>(some (.inl ((i64.wrap (s6.1+1)),(s6.2++[t15])))) else (some (.inr s6.2))):Option ((Int×List Str)⊕((List Str))))) ((0:Int),([]:List Str))).bind fun p8=>(some (p8,(0:Int))) | .inr _=>none))))
instance Qk4:SpcS prog 9 (∀{x_:Qa} {r:(List Str)×Int},QdH x_=some r→FnOk prog 9 [Qf.ty x_] [glo] (fun _=>[]) (fun _=>ttup [tsl rS r.1,ti r.2])):=.mk fun {x_ r} h=>by
 unfold QdH at h
 refine FnOk.enterM func9 rfl ntmps9 (leb rfl) (fun M0 M w0 a hpl H=>?_)
 replace H:St M w0 168 [(0,Qf.ty x_)] [glo] a w0:=H
 refine sr mx [] H (fun _=>.o (Qkt (R:=Qf) (u:=x_) z0)<|.o (Qn (.nilsl (R:=rS)))<|.o (Qn .k)<|.n) fun _ a w H=>?_
 have H:=H.to [0] [_] [_] rfl rfl
 have⟨t0,h0,h⟩:=bs h
 refine sr mx [v1 5 (fun v0=>box ((rSl rS).cs ([]:(List Str))) v0),v1 5 (fun v0=>box ((rSl rS).cs t0.1) v0)] H (fun _=>.o (Q3 Qci z0)<|.u [0] rfl rfl ((QC Qtt (Qn3.ok h0) (.cons (.of z0)<|.nil)).glo)<|.q 0 rfl<|.o (Q8 z0 rfl)<|.o (Q8 z1 rfl)<|.m [] [1] rfl rfl rfl (Qbn (R:=(rSl rS)) (a:=([]:(List Str))) QhX zok25)<|.e [] [1] [2] rfl rfl rfl rfl (QaO (R:=(rSl rS)) (a:=t0.1) QhX z0 z2 (leb rfl))<|.o (Qn z1)<|.n) fun _ a w H=>?_
 replace H:St _ _ _ [_,_,_] [_] _ _:=((((H.pick [5,6,7]).selA [1,0] rfl).shareB 0 rfl).add 0 rfl (fun _ _ _ h=>h.2)).pick [0,3,4]
 refine wp_seq_k (fun _ k0=>?_)
 refine sr mx [] H (fun _=>.q 1 rfl<|.o (Qov z0 .k)<|.n) fun _ a w H=>?_
 have H:=H.to [1,2,3,4] [_,_,_,_] [_] rfl rfl
 refine wi H h (fun b0 h=>?_) (fun b0 h=>?_)
 ·refine sr mx [] H (fun _=>.q 2 rfl<|.o (Qn (.nilsl (R:=rS)))<|.o (Qn z1)<|.n) fun _ a w H=>?_
  have H:=H.t2_1 [1,2]
  refine wp_ret ?_
  obtain rfl:=sj h
  exact Qlf (QeG undef [] hpl H rfl (.tmp z0 (.tmp z1 .nil)) rfl rfl rfl)
 refine wp_skip (k0 _ _ ?_)
 have⟨t1,h1,h⟩:=bs h
 refine sr mx [v1 2 (fun v0=>box [tvs (.pointer none)] v0),v1 2 (fun v0=>box ((rPtr QF).cs t1) v0)] H (fun _=>.o (Q3 Qci z3)<|.u [0] rfl rfl ((QC Qtv (Qn4.ok h1) (.cons (.of z0)<|.nil)).glo)<|.m [] [1] rfl rfl rfl (Qbn (R:=rVal) (a:=.pointer none) tokP73 zokP)<|.e [] [1] [2] rfl rfl rfl rfl (QaO (R:=(rPtr QF)) (a:=t1) Qha z0 z1 (leb rfl))<|.n) fun _ a w H=>?_
 replace H:St _ _ _ [_,_,_] [_] _ _:=((((H.pick [2,4,6]).selA [1,0] rfl).shareB 0 rfl).add 0 rfl (fun _ _ _ h=>h.2)).pick [0,3,4]
 refine wp_seq_k (fun _ k1=>?_)
 refine sr mx [] H (fun _=>.o (Q3 Qha z0)<|.o (Qho z0)<|.o (QT QiB z0)<|.o (QQ (u:=t1.limits) QkB z0 rfl)<|.o (Qe4 ud75 z0)<|.o (Qim z0 .k)<|.n) fun _ a w H=>?_
 have H:=H.to [5,6,7,8] [_,_,_,_] [_] rfl rfl
 refine wi H h (fun b1 h=>?_) (fun b1 h=>?_)
 ·refine sr mx [] H (fun _=>.o (Qn (.nilsl (R:=rS)))<|.o (Qn .k)<|.n) fun _ a w H=>?_
  have H:=H.t2_1 [0,1]
  refine wp_ret ?_
  obtain rfl:=sj h
  exact Qlf (QeG undef [] hpl H rfl (.tmp z0 (.tmp z1 .nil)) rfl rfl rfl)
 refine wp_skip (k1 _ _ ?_)
 refine sr mx [v1 3 (fun v0=>box (rI.cs (0:Int)) v0),v1 3 (fun v0=>box (rI.cs (x_.Kinds.length:Int)) v0)] H (fun _=>.o (QT QaL z3)<|.o (QQ (u:=x_.Kinds) QkA z0 rfl)<|.o (Qe4 ud29 z0)<|.m [] [1] rfl rfl rfl (Qbn (R:=rI) (a:=(0:Int)) tok3 zok3)<|.e [] [1] [2] rfl rfl rfl rfl (QaO (R:=rI) (a:=(x_.Kinds.length:Int)) tok3 z0 z1 (leb rfl))<|.n) fun _ a w H=>?_
 replace H:St _ _ _ [_,_,_] [_] _ _:=((((H.pick [3,5,6]).selA [1,0] rfl).shareB 0 rfl).add 0 rfl (fun _ _ _ h=>h.2)).pick [0,3,4]
 have⟨t2,h2,h⟩:=bs h
 refine sr mx [v1 1 (fun v0=>own (rSn rI) 22 t2 v0),v1 2 (fun v0=>box (rVal.cs nilV) v0),v2 1 2 (fun v0 v1=>box (rVal.cs v0) v1)] H (fun _=>.o (Q3 tok3 z0)<|.m [] [1] rfl rfl rfl (Qhy (R:=(rSn rI)) ud68 Qf9 zokN22 (leb rfl) z0 z0 h2)<|.m [] [2] rfl rfl rfl (Qek Qd6)<|.e [1] [2] [3] rfl rfl rfl rfl (Qcs (R:=(rSn rI)) (e:=22) (Ts:=(rVal.cs nilV)) Qd6 z0 z1 (leb rfl))<|.n) fun m0 a w H=>?_
 have H:=H.to [1,2,3,4,5] [_,_,_,_,_] [_,_,_] rfl rfl
 refine wp_seq_k (fun K0 k2=>?_)
 refine sr mx [] H (fun _=>.u [2] rfl rfl (QaQ Qd6 z1)<|.u [1] rfl rfl (Qdx ud68 z0)<|.o (Qah .k)<|.n) fun _ a w H=>?_
 have H:=H.to [0,1,2,3,4,5,6,7] [_,_,_,_,_,_,_,_] [_,_,_] rfl rfl
 have⟨e0,h3,h⟩:=bs h
 have J0:∀(p0:List (List Int)) a w,p0=e0→St M w0 168 [(8,tv (m0 2)),(7,tptr (rI.cs (x_.Kinds.length:Int))),(6,tptr ((rPtr QF).cs t1)),(4,tptr ((rSl rS).cs t0.1))] [glo,own (rSn rI) 22 p0 (m0 1),box (rVal.cs (m0 1)) (m0 2)] a w→K0 a w:=by
  intro p0 a w he H;subst he;refine k2 _ _ ?_;refine wp_seq_k (fun _ k3=>?_);have⟨t3,h4,h⟩:=bs h;refine sr mx [] H (fun _=>.o (Q3 Qha z2)<|.o (Qhz (.cons z1<|.nil))<|.u [2,1] rfl rfl (Qe6 [box (rVal.cs (m0 1)) (m0 2),own (rSn rI) 22 p0 (m0 1)] QoU (QfH.ok h4) (.cons (.of z1)<|.cons (.of (Fct.weak .fnE (Qd5 QoT (fun _ _ hq=>Qk3.ok hq))))<|.cons (Qbw.cloL z0 (.cons (QsT (.head _) (.tail _ (.head _)))<|.nil) (Qd5 Qtx (fun _ _ hq=>Qn5.ok hq)))<|.nil) (fun _=>Qc5) (fun _=>QgJ (x:=undef)))<|.n) fun _ a w H=>?_;have H:=H.to [2,3,4,5,6] [_,_,_,_,_] [_,_,_] rfl rfl;refine wi H h (fun b2 h=>?_) (fun b2 h=>?_)
  ·refine sr mx [] H (fun _=>.o (Qn (.nilsl (R:=rS)))<|.o (Qn .k)<|.n) fun _ a w H=>?_;replace H:St _ _ _ [_,_] [_] _ _:=(H.pick [0,1]).selA [0] rfl;refine wp_ret ?_;obtain rfl:=sj h;exact Qlf (QeG undef [] hpl H rfl (.tmp z0 (.tmp z1 .nil)) rfl rfl rfl)
  refine wp_skip (k3 _ _ ?_);refine sr mx [v1 0 (fun v0=>box (rVal.cs nilV) v0)] H (fun _=>.m [] [3] rfl rfl rfl (Qek QaW)<|.n) fun m1 a w H=>?_;replace H:St _ _ _ [_,_,_,_,_] [_,_,_,_,_] _ _:=(H.pick [0,2,3,4,5]).nilN (rI) 3;refine wp_seq_k (fun _ k4=>?_);refine sr mx [] H (fun _=>.o (Q3 tok3 z2)<|.o (QC QoV Qj8 (.cons (.of z0)<|.nil))<|.n) fun _ a w H=>?_;have H:=H.to [1,2,3,4,5,6] [_,_,_,_,_,_] [_,_,_,_,_] rfl rfl;refine wp_block ?_;have⟨t2,h2,h⟩:=bs h;have H:=H.to [0,1,2,3,4,5] [_,_,_,_,_,_] [_,_,_,_,_] rfl rfl;refine Qs4 (A:=(fun (s1:List Int) y0=>[ownN rI 3 s1 y0,glo,own (rSn rI) 22 p0 (m0 1),box (rVal.cs (m0 1)) (m0 2),box (rVal.cs y0) (m1 0)])) (s0:=([]:List Int)) (g0:=nilV) (jump:=.ret) (jx:=.ret) .ret H z0 Qo0 (Qh0 h2) (by decide) rfl (fun s1 y0 m41 r h M0 M w0 a l LR43 LB43 K Q hLB43 hpl H hK hN hX=>?_) (fun s1 y0 D a w M he hpm H=>?_) (fun s1 y0 D a w M he hpm H=>?_)
  ·replace H:St M w0 168 [(60,tv (.int .u64 m41)),(10,tv (m1 0)),(8,tv (m0 2)),(7,tptr (rI.cs (x_.Kinds.length:Int))),(6,tptr ((rPtr QF).cs t1)),(4,tptr ((rSl rS).cs t0.1))] [LR43,ownN rI 3 s1 y0,glo,own (rSn rI) 22 p0 (m0 1),box (rVal.cs (m0 1)) (m0 2),box (rVal.cs y0) (m1 0)] a w0:=H.pick [0,2,3,4,5,6];refine QaD mixed [v1 0 (fun v0=>box ((rInt .u64).cs (0:Int)) v0),v1 0 (fun v0=>box ((rInt .u64).cs m41) v0)] H (fun _=>.m [] [6] rfl rfl rfl (Qbn (R:=(rInt .u64)) (a:=(0:Int)) QgG zok86)<|.e [] [6] [7] rfl rfl rfl rfl (QaO (R:=(rInt .u64)) (a:=m41) QgG z0 z1 (leb rfl))<|.nil _ _) (by kernel_rfl) (fun _ a w H=>?_);replace H:St _ _ _ [_,_,_,_,_,_] [_,_,_,_,_,_] _ _:=((((H.pick [0,2,3,4,5,6]).selA [6,0,1,2,3,4,5] rfl).shareB 0 rfl).add 0 rfl (fun _ _ _ h=>h.2)).pick [0,3,4,5,6,7];refine hK _ _ _ _ H (fun w H=>?_);refine QdB ?_;refine Qag (fun _ k5=>?_);refine QaD mixed [v1 0 (fun v0=>box (rVal.cs nilV) v0)] H (fun _=>.m [] [6] rfl rfl rfl (Qek QaW)<|.nil _ _) (by kernel_rfl) (fun m2 a w H=>?_);replace H:St _ _ _ [_,_,_,_,_,_,_] [_,_,_,_,_,_,_,_] _ _:=(H.pick [0,1,2,3,4,5,6]).nil (rI) 3;refine k5 _ _ ?_;refine Qag (fun K1 k6=>?_);refine Qag (fun _ k7=>?_);refine QaD mixed [] H (fun _=>.o (Q3 tok3 z4)<|.o (Qah .k)<|.nil _ _) (by kernel_rfl) (fun _ a w H=>?_);have H:=H.to [0,1,2,3,4,5,6,7,8] [_,_,_,_,_,_,_,_,_] [_,_,_,_,_,_,_,_] rfl rfl;refine k7 _ _ ?_;have⟨e1,h5,h⟩:=bs h;have J1:∀(p1:List Int) (y1:Value) a w,p1=e1→St M w0 168 [(12,tv (m2 0)),(11,tptr ((rInt .u64).cs m41)),(10,tv (m1 0)),(8,tv (m0 2)),(7,tptr (rI.cs (x_.Kinds.length:Int))),(6,tptr ((rPtr QF).cs t1)),(4,tptr ((rSl rS).cs t0.1))] [own rI 3 p1 y1,LB43,ownN rI 3 s1 y0,glo,own (rSn rI) 22 p0 (m0 1),box (rVal.cs (m0 1)) (m0 2),box (rVal.cs y0) (m1 0),box (rVal.cs y1) (m2 0)] a w→K1 a w:=by
    intro p1 y1 a w he H;subst he;refine k6 _ _ ?_;refine Qag (fun _ k8=>?_);refine QaD mixed [] H (fun _=>.o (Q3 Qha z5)<|.o (Qho z0)<|.o (QT QiB z0)<|.o (QQ (u:=t1.limits) QkB z0 rfl)<|.o (Qe4 ud75 z0)<|.o (QC QoV Qj8 (.cons (.of z0)<|.nil))<|.nil _ _) (by kernel_rfl) (fun _ a w H=>?_);have H:=H.to [5,6,7,8,9,10,11,12] [_,_,_,_,_,_,_,_] [_,_,_,_,_,_,_,_] rfl rfl;refine k8 _ _ ?_;have⟨p2,h6,h⟩:=bs h;have J2:∀(y2:Value) a w,St M w0 168 [(10,tv (m1 0)),(8,tv (m0 2)),(7,tptr (rI.cs (x_.Kinds.length:Int))),(6,tptr ((rPtr QF).cs t1)),(4,tptr ((rSl rS).cs t0.1))] [LB43,ownN rI 3 p2 y2,glo,own (rSn rI) 22 p0 (m0 1),box (rVal.cs (m0 1)) (m0 2),box (rVal.cs y2) (m1 0)] a w→Q .normal a w:=by
     intro y2 a w H;obtain rfl:=sj h;exact hN _ y2 _ [0,1,2,3,4,5] _ _ _ rfl H rfl (fun _=>rfl)
    replace h:=h6;clear h6;refine QdB ?_;have⟨t4,h7,h⟩:=bs h;have H:=H.to [0,1,2,3,4,5,6,7] [_,_,_,_,_,_,_,_] [_,_,_,_,_,_,_,_] rfl rfl;refine QrL (A:=(fun (s2:List Int) y3=>[own rI 3 p1 y1,LB43,ownN rI 3 s2 y3,glo,own (rSn rI) 22 p0 (m0 1),box (rVal.cs (m0 1)) (m0 2),box (rVal.cs y3) (m1 0),box (rVal.cs y1) (m2 0)])) (s0:=s1) (g0:=y0) (jump:=(.exit 6)) (jx:=(.exit 6)) (.exit 6) hLB43 (.tail _ (.head _)) H z0 Qo0 (Qh0 h7) (by decide) rfl (fun s2 y3 m1394 r h M0 M w0 a l LR1396 LB1396 K Q hLB1396 hpl H hK hN hX=>?_) (fun s2 y3 w he H=>?_) (fun s2 y3 w he H=>?_)
    ·replace H:St M w0 168 [(92,tv (.int .u64 m1394)),(12,tv (m2 0)),(11,tptr ((rInt .u64).cs m41)),(10,tv (m1 0)),(8,tv (m0 2)),(7,tptr (rI.cs (x_.Kinds.length:Int))),(6,tptr ((rPtr QF).cs t1)),(4,tptr ((rSl rS).cs t0.1))] [LR1396,own rI 3 p1 y1,LB43,ownN rI 3 s2 y3,glo,own (rSn rI) 22 p0 (m0 1),box (rVal.cs (m0 1)) (m0 2),box (rVal.cs y3) (m1 0),box (rVal.cs y1) (m2 0)] a w0:=H.pick [0,2,3,4,5,6,7,8];refine QaD mixed [v1 0 (fun v0=>box ((rInt .u64).cs (0:Int)) v0),v1 0 (fun v0=>box ((rInt .u64).cs m1394) v0)] H (fun _=>.m [] [9] rfl rfl rfl (Qbn (R:=(rInt .u64)) (a:=(0:Int)) QgG zok86)<|.e [] [9] [10] rfl rfl rfl rfl (QaO (R:=(rInt .u64)) (a:=m1394) QgG z0 z1 (leb rfl))<|.nil _ _) (by kernel_rfl) (fun _ a w H=>?_);replace H:St _ _ _ [_,_,_,_,_,_,_,_] [_,_,_,_,_,_,_,_,_] _ _:=((((H.pick [0,2,3,4,5,6,7,8]).selA [9,0,1,2,3,4,5,6,7,8] rfl).shareB 0 rfl).add 0 rfl (fun _ _ _ h=>h.2)).pick [0,3,4,5,6,7,8,9];refine hK _ _ _ _ H (fun w H=>?_);refine QdB ?_;refine Qag (fun _ k9=>?_);have⟨t5,h8,h⟩:=bs h;refine QaD mixed [] H (fun _=>.u [8] rfl rfl (QaQ QaW z1)<|.u [1] rfl rfl (Qdx ud22 z0)<|.o (Q3 QgG z2)<|.o (QC QoW (Qg5.ok h8) (.cons (.of z0)<|.nil))<|.o (Qay z2 z0)<|.o (Qn z0)<|.nil _ _) (by kernel_rfl) (fun _ a w H=>?_);have H:=H.to [0,5,6,7,8,9,10,11,12,13] [_,_,_,_,_,_,_,_,_,_] [_,_,_,_,_,_,_,_,_] rfl rfl;refine k9 _ _ ?_;refine Qag (fun _ k10=>?_);refine Qag (fun _ k11=>?_);refine QaD mixed [] H (fun _=>.u [7] rfl rfl (QaQ QaW z5)<|.u [3] rfl rfl (Qs5 ud22 z0)<|.q 0 rfl<|.g rfl rfl bq0 (fun _=>Qah z4)<|.gu [7] rfl rfl rfl bq1 (fun _=>QaQ QaW z9)<|.gu [3] rfl rfl rfl bq2 (fun hc=>(Qdx ud22 (.cond z0 hc)).useN)<|.g rfl rfl bq3 (fun hc=>QlJ (.cond z2 hc) (.cond z0 hc))<|.o (QcP z4 (fun hp=>(.cond z0 (beqT hp))))<|.q 0 rfl<|.g rfl rfl bq0 (fun _=>Qah z10)<|.g rfl rfl bq1 (fun _=>Q3 QhX z19)<|.g rfl rfl bq2 (fun hc=>Qe4 ud25 (.cond z0 hc))<|.g rfl rfl bq3 (fun hc=>Qim (.cond z2 hc) (.cond z0 hc))<|.o (Qrv z4 (fun hp=>(.cond z0 (beqF hp))))<|.nil _ _) (by kernel_rfl) (fun _ a w H=>?_);have H:=H.t11_9 [0,13,14,16,17,18,19,20,21,22,23];refine k11 _ _ ?_;refine Qe8 1 H rfl (fun b3=>?_) (fun b3=>?_)
     ·replace h:=QcW b3 h;refine Qgs ?_;obtain rfl:=sj h;exact hX _ y3 _ [0,1,2,3,4,5,6,7,8] _ _ _ rfl H rfl (fun _=>rfl)
     replace h:=QcX b3 h;refine Qe9 ?_;refine k10 _ _ ?_;refine Qag (fun _ k12=>?_);refine Qag (fun _ k13=>?_);have⟨t6,h9,h⟩:=bs h;refine QaD mixed [] H (fun _=>.o (Q3 Qha z9)<|.o (Qhz (.cons z4<|.nil))<|.o (Qhz (.cons z7<|.nil))<|.o (QC QoU (QfH.ok h9) (.cons (.of z2)<|.cons (.of (Fct.weak z1 (Qd5 Qty (fun _ _ hq=>Qn7.ok hq))))<|.cons (.of (Fct.weak z0 (Qd5 Qtz (fun _ _ hq=>Qn8.ok hq))))<|.nil))<|.nil _ _) (by kernel_rfl) (fun _ a w H=>?_);have H:=H.t11_9 [3,4,6,7,8,9,10,11,12,13,14];refine k13 _ _ ?_;refine Qe8 0 H rfl (fun b4=>?_) (fun b4=>?_)
     ·replace h:=QcW b4 h;refine Qgs ?_;obtain rfl:=sj h;exact hN _ y3 _ [0,1,2,3,4,5,6,7,8] _ _ _ rfl H rfl (fun _=>rfl)
     replace h:=QcX b4 h;refine Qe9 ?_;refine k12 _ _ ?_;refine Qag (fun _ k14=>?_);refine QaD mixed [v0 (box (rVal.cs nilV) (m1 0))] H (fun _=>.e [] [7] [9] rfl rfl rfl rfl (QaO (R:=rVal) (a:=nilV) QaW z6 .nilV (leb rfl))<|.nil _ _) (by kernel_rfl) (fun _ a w H=>?_);replace H:St _ _ _ [_,_,_,_,_,_,_,_,_,_] [_,_,_,_,_,_,_,_,_,_] _ _:=(H.pick [1,2,3,4,5,6,7,8,9,10]).nilN (rI) 3;refine k14 _ _ ?_;refine Qag (fun K2 k15=>?_);refine Qag (fun _ k16=>?_);refine QaD mixed [] H (fun _=>.o (Q3 Qha z8)<|.o (Qho z0)<|.o (QT QiB z0)<|.o (QQ (u:=t1.limits) QkB z0 rfl)<|.o (Qe4 ud75 z0)<|.o (Qah .k)<|.nil _ _) (by kernel_rfl) (fun _ a w H=>?_);have H:=H.to [4,5,6,7,8,9,10,11,12,13,14,15] [_,_,_,_,_,_,_,_,_,_,_,_] [_,_,_,_,_,_,_,_,_,_] rfl rfl;refine k16 _ _ ?_;have⟨e2,h10,h⟩:=bs h;have J3:∀(p3:List Int) (y4:Value) a w,p3=e2→St M w0 168 [(12,tv (m2 0)),(11,tptr ((rInt .u64).cs m41)),(10,tv (m1 0)),(8,tv (m0 2)),(7,tptr (rI.cs (x_.Kinds.length:Int))),(6,tptr ((rPtr QF).cs t1)),(4,tptr ((rSl rS).cs t0.1))] [ownN rI 3 p3 y4,LB1396,own rI 3 p1 y1,LB43,glo,own (rSn rI) 22 p0 (m0 1),box (rVal.cs (m0 1)) (m0 2),box (rVal.cs y1) (m2 0),box (rVal.cs y4) (m1 0)] a w→K2 a w:=by
      intro p3 y4 a w he H;subst he;refine k15 _ _ ?_;refine Qag (fun K3 k17=>?_);refine Qag (fun _ k18=>?_);refine QaD mixed [] H (fun _=>.u [7] rfl rfl (QaQ QaW z0)<|.u [2] rfl rfl (Qdx ud22 z0)<|.o (Qah .k)<|.nil _ _) (by kernel_rfl) (fun _ a w H=>?_);have H:=H.to [0,1,2,3,4,5,6,7,8,9] [_,_,_,_,_,_,_,_,_,_] [_,_,_,_,_,_,_,_,_] rfl rfl;refine k18 _ _ ?_;have⟨e3,h11,h⟩:=bs h;have J4:∀(p4:List Int) (y5:Value) a w,p4=e3→St M w0 168 [(12,tv (m2 0)),(11,tptr ((rInt .u64).cs m41)),(10,tv (m1 0)),(8,tv (m0 2)),(7,tptr (rI.cs (x_.Kinds.length:Int))),(6,tptr ((rPtr QF).cs t1)),(4,tptr ((rSl rS).cs t0.1))] [ownN rI 3 p4 y5,LB1396,own rI 3 p1 y1,LB43,glo,own (rSn rI) 22 p0 (m0 1),box (rVal.cs (m0 1)) (m0 2),box (rVal.cs y1) (m2 0),box (rVal.cs y5) (m1 0)] a w→K3 a w:=by
       intro p4 y5 a w he H;subst he;refine k17 _ _ ?_;refine Qgs ?_;obtain rfl:=sj h;exact hX _ y5 _ [0,1,2,3,4,5,6,7,8] _ _ _ rfl (H.selA [1,2,3,0,4,5,6,8,7] rfl) rfl (fun _=>rfl)
      refine QdB ?_;refine QjT _ (fun (s3:Int×List Int) a w=>∃y6:Value,St M w0 168 [(134,tv y1),(135,ti (p1.length:Int)),(136,ti s3.1),(12,tv (m2 0)),(11,tptr ((rInt .u64).cs m41)),(10,tv (m1 0)),(8,tv (m0 2)),(7,tptr (rI.cs (x_.Kinds.length:Int))),(6,tptr ((rPtr QF).cs t1)),(4,tptr ((rSl rS).cs t0.1))] [ownN rI 3 s3.2 y6,LB1396,own rI 3 p1 y1,LB43,glo,own (rSn rI) 22 p0 (m0 1),box (rVal.cs (m0 1)) (m0 2),box (rVal.cs y1) (m2 0),box (rVal.cs y6) (m1 0)] a w) _ _ h11 ⟨y4,H.pick [0,1,2,3,4,5,6,7,8,9]⟩ ?_;clear h;intro s3 o a w K4 hI h ho k19;obtain⟨y6,H⟩:=hI;refine Qag (fun _ k20=>?_);refine QaD mixed [] H (fun _=>.o (QcO z2 z1)<|.nil _ _) (by kernel_rfl) (fun _ a w H=>?_);have H:=H.t11_9 [0,1,2,3,4,5,6,7,8,9,10];refine k20 _ _ ?_;refine Qag (fun _ k21=>?_);refine Qe8 0 H rfl (fun b5=>?_) (fun b5=>?_)
      ·replace h:=QcW b5 h;refine Qe9 ?_;refine k21 _ _ ?_;refine Qag (fun _ k22=>?_);refine QdB ?_;refine Qag (fun _ k23=>?_);have⟨t7,h12,h⟩:=bs h;refine QaD mixed [] H (fun _=>.u [2] rfl rfl (Qae ud22 tok3 z1 z3 h12)<|.u [2] rfl rfl (QdR tok3 z0 h12)<|.o (Qn z0)<|.nil _ _) (by kernel_rfl) (fun _ a w H=>?_);have H:=H.t11_9 [2,4,5,6,7,8,9,10,11,12,13];refine k23 _ _ ?_;have⟨u0,h13,h⟩:=bs h;refine QaD mixed [v1 9 (fun v0=>ownN rI 3 (s3.2++[(i64.wrap ((t1.limits.length:Int)+t7))]) v0),v1 9 (fun v0=>box (rVal.cs v0) (m1 0))] H (fun _=>.u [8] rfl rfl (QaQ QaW z6)<|.o (Q3 Qha z10)<|.o (Qho z0)<|.o (QT QiB z0)<|.o (QQ (u:=t1.limits) QkB z0 rfl)<|.o (Qe4 ud75 z0)<|.q 6 rfl<|.o (Qay z1 z0)<|.o (Qao (R:=rI) (us:=[(i64.wrap ((t1.limits.length:Int)+t7))]) ud22 tok3 (.cons z0<|.nil _) rfl (leb rfl))<|.e [] [0] [9] rfl rfl rfl rfl ((QaP (R:=rI) ud22 tok3 (leb rfl) z8 z0 h13).eatN (by simp))<|.e [9] [8] [10] rfl rfl rfl rfl ((Qcs (R:=rI) (e:=3) (Ts:=(rVal.cs y6)) QaW z16 z0 (leb rfl)).useN)<|.nil _ _) (by kernel_rfl) (fun m3 a w H=>?_);have H:=H.t11_9 [9,11,12,13,14,15,16,17,18,19,20];refine k22 _ _ ?_;refine QaD mixed [] H (fun _=>.o (Qay z3 .k)<|.q 0 rfl<|.nil _ _) (by kernel_rfl) (fun _ a w H=>?_);have H:=H.t11_9 [1,2,3,4,5,6,7,8,9,10,11];exact k19 _ _ _ (sj h).symm ⟨(m3 9),(H.pick [2,3,0,4,5,6,7,8,9,10]).selA [7,0,1,2,3,4,5,6,8] rfl⟩
      replace h:=QcX b5 h;refine Qgs ?_;exact J4 _ y6 _ _ (ho _ (sj h).symm) (H.pick [4,5,6,7,8,9,10])
     refine QdB ?_;refine QjT _ (fun (s4:Int×List Int) a w=>∃y7:Value,St M w0 168 [(120,ti (t1.limits.length:Int)),(121,ti s4.1),(14,tptr ((rInt .u64).cs m1394)),(12,tv (m2 0)),(11,tptr ((rInt .u64).cs m41)),(10,tv (m1 0)),(8,tv (m0 2)),(7,tptr (rI.cs (x_.Kinds.length:Int))),(6,tptr ((rPtr QF).cs t1)),(4,tptr ((rSl rS).cs t0.1))] [ownN rI 3 s4.2 y7,LB1396,own rI 3 p1 y1,LB43,glo,own (rSn rI) 22 p0 (m0 1),box (rVal.cs (m0 1)) (m0 2),box (rVal.cs y1) (m2 0),box (rVal.cs y7) (m1 0)] a w) _ _ h10 ⟨nilV,(H.pick [0,1,4,5,6,7,8,9,10,11]).selA [0,1,2,3,5,6,7,8,9] rfl⟩ ?_;clear h;intro s4 o a w K5 hI h ho k24;obtain⟨y7,H⟩:=hI;refine Qag (fun _ k25=>?_);refine QaD mixed [] H (fun _=>.o (QcO z1 z0)<|.nil _ _) (by kernel_rfl) (fun _ a w H=>?_);have H:=H.t11_9 [0,1,2,3,4,5,6,7,8,9,10];refine k25 _ _ ?_;refine Qag (fun _ k26=>?_);refine Qe8 0 H rfl (fun b6=>?_) (fun b6=>?_)
     ·replace h:=QcW b6 h;refine Qe9 ?_;refine k26 _ _ ?_;refine Qag (fun K6 k27=>?_);refine QdB ?_;refine Qag (fun _ k28=>?_);refine QaD mixed [] H (fun _=>.q 2 rfl<|.o (Qn z0)<|.nil _ _) (by kernel_rfl) (fun _ a w H=>?_);have H:=H.t11_9 [1,3,4,5,6,7,8,9,10,11,12];refine k28 _ _ ?_;refine Qag (fun _ k29=>?_);have⟨u1,h14,h⟩:=bs h;refine QaD mixed [] H (fun _=>.o (Q3 QgG z3)<|.q 1 rfl<|.o (QbH z1 z0 (QlQ h14))<|.o (Qce z0 .k)<|.o (QcA z0 .k)<|.nil _ _) (by kernel_rfl) (fun _ a w H=>?_);have H:=H.to [4,5,6,7,8,9,10,11,12,13,14,15] [_,_,_,_,_,_,_,_,_,_,_,_] [_,_,_,_,_,_,_,_,_] rfl rfl;refine k29 _ _ ?_;have⟨p5,h15,h⟩:=bs h;have J5:∀(y8:Value) a w,St M w0 168 [(120,ti (t1.limits.length:Int)),(121,ti s4.1),(14,tptr ((rInt .u64).cs m1394)),(12,tv (m2 0)),(11,tptr ((rInt .u64).cs m41)),(10,tv (m1 0)),(8,tv (m0 2)),(7,tptr (rI.cs (x_.Kinds.length:Int))),(6,tptr ((rPtr QF).cs t1)),(4,tptr ((rSl rS).cs t0.1))] [LB1396,own rI 3 p1 y1,LB43,glo,own (rSn rI) 22 p0 (m0 1),box (rVal.cs (m0 1)) (m0 2),box (rVal.cs y1) (m2 0),ownN rI 3 p5 y8,box (rVal.cs y8) (m1 0)] a w→K6 a w:=by
       intro y8 a w H;refine k27 _ _ ?_;refine QaD mixed [] H (fun _=>.o (Qay z1 .k)<|.q 0 rfl<|.nil _ _) (by kernel_rfl) (fun _ a w H=>?_);have H:=H.to [1,2,3,4,5,6,7,8,9,10] [_,_,_,_,_,_,_,_,_,_] [_,_,_,_,_,_,_,_,_] rfl rfl;exact k24 _ _ _ (sj h).symm ⟨y8,(H.pick [1,0,2,3,4,5,6,7,8,9]).selA [7,0,1,2,3,4,5,6,8] rfl⟩
      replace h:=h15;clear h15;refine Qe8 0 H rfl (fun b7=>?_) (fun b7=>?_)
      ·replace h:=QcW b7 h;have⟨u2,h16,h⟩:=bs h;refine QaD mixed [v1 3 (fun v0=>ownN rI 3 (s4.2++[s4.1]) v0),v1 3 (fun v0=>box (rVal.cs v0) (m1 0))] H (fun _=>.u [8] rfl rfl (QaQ QaW z7)<|.q 2 rfl<|.o (Qao (R:=rI) (us:=[s4.1]) ud22 tok3 (.cons z0<|.nil _) rfl (leb rfl))<|.e [] [0] [9] rfl rfl rfl rfl ((QaP (R:=rI) ud22 tok3 (leb rfl) z2 z0 h16).eatN (by simp))<|.e [9] [8] [10] rfl rfl rfl rfl ((Qcs (R:=rI) (e:=3) (Ts:=(rVal.cs y7)) QaW z11 z0 (leb rfl)).useN)<|.nil _ _) (by kernel_rfl) (fun m4 a w H=>?_);have H:=H.t11_9 [3,6,7,8,9,10,11,12,13,14,15];obtain rfl:=sj h;exact J5 (m4 3) _ _ (H.pick [1,2,3,4,5,6,7,8,9,10])
      replace h:=QcX b7 h;refine Qe9 ?_;obtain rfl:=sj h;exact J5 y7 _ _ ((H.pick [2,3,4,5,6,7,8,9,10,11]).selA [1,2,3,4,5,6,7,0,8] rfl)
     replace h:=QcX b6 h;refine Qgs ?_;exact J3 _ y7 _ _ (ho _ (sj h).symm) (H.pick [4,5,6,7,8,9,10])
    ·subst he;simp only at h;have H:=H.to [1,2,3,4,5,6,7] [_,_,_,_,_,_,_] [_,_,_,_,_,_,_,_] rfl rfl;obtain rfl:=sj h;exact J2 y3 _ _ ((H.pick [2,3,4,5,6]).selA [1,2,3,4,5,6] rfl)
    subst he;simp only at h;have H:=H.to [1,2,3,4,5,6,7] [_,_,_,_,_,_,_] [_,_,_,_,_,_,_,_] rfl rfl;obtain rfl:=sj h;exact J2 y3 _ _ ((H.pick [2,3,4,5,6]).selA [1,2,3,4,5,6] rfl)
   refine QdB ?_;refine QjT _ (fun (s5:Int×List Int) a w=>∃y9:Value,St M w0 168 [(61,ti (x_.Kinds.length:Int)),(62,ti s5.1),(12,tv (m2 0)),(11,tptr ((rInt .u64).cs m41)),(10,tv (m1 0)),(8,tv (m0 2)),(7,tptr (rI.cs (x_.Kinds.length:Int))),(6,tptr ((rPtr QF).cs t1)),(4,tptr ((rSl rS).cs t0.1))] [own rI 3 s5.2 y9,LB43,ownN rI 3 s1 y0,glo,own (rSn rI) 22 p0 (m0 1),box (rVal.cs (m0 1)) (m0 2),box (rVal.cs y0) (m1 0),box (rVal.cs y9) (m2 0)] a w) _ _ h5 ⟨nilV,H.pick [0,1,2,3,4,5,6,7,8]⟩ ?_;clear h;intro s5 o a w K7 hI h ho k30;obtain⟨y9,H⟩:=hI;refine Qag (fun _ k31=>?_);refine QaD mixed [] H (fun _=>.o (QcO z1 z0)<|.nil _ _) (by kernel_rfl) (fun _ a w H=>?_);have H:=H.to [0,1,2,3,4,5,6,7,8,9] [_,_,_,_,_,_,_,_,_,_] [_,_,_,_,_,_,_,_] rfl rfl;refine k31 _ _ ?_;refine Qag (fun _ k32=>?_);refine Qe8 0 H rfl (fun b8=>?_) (fun b8=>?_)
   ·replace h:=QcW b8 h;refine Qe9 ?_;refine k32 _ _ ?_;refine Qag (fun K8 k33=>?_);refine QdB ?_;refine Qag (fun _ k34=>?_);refine QaD mixed [] H (fun _=>.q 2 rfl<|.o (Qn z0)<|.nil _ _) (by kernel_rfl) (fun _ a w H=>?_);have H:=H.to [1,3,4,5,6,7,8,9,10,11] [_,_,_,_,_,_,_,_,_,_] [_,_,_,_,_,_,_,_] rfl rfl;refine k34 _ _ ?_;refine Qag (fun _ k35=>?_);have⟨u3,h17,h⟩:=bs h;refine QaD mixed [] H (fun _=>.o (Q3 QgG z4)<|.q 1 rfl<|.o (QbH z1 z0 (QlQ h17))<|.o (Qce z0 .k)<|.o (QcA z0 .k)<|.nil _ _) (by kernel_rfl) (fun _ a w H=>?_);have H:=H.to [4,5,6,7,8,9,10,11,12,13,14] [_,_,_,_,_,_,_,_,_,_,_] [_,_,_,_,_,_,_,_] rfl rfl;refine k35 _ _ ?_;have⟨p6,h18,h⟩:=bs h;have J6:∀(y10:Value) a w,St M w0 168 [(61,ti (x_.Kinds.length:Int)),(62,ti s5.1),(12,tv (m2 0)),(11,tptr ((rInt .u64).cs m41)),(10,tv (m1 0)),(8,tv (m0 2)),(7,tptr (rI.cs (x_.Kinds.length:Int))),(6,tptr ((rPtr QF).cs t1)),(4,tptr ((rSl rS).cs t0.1))] [LB43,ownN rI 3 s1 y0,glo,own (rSn rI) 22 p0 (m0 1),box (rVal.cs (m0 1)) (m0 2),box (rVal.cs y0) (m1 0),own rI 3 p6 y10,box (rVal.cs y10) (m2 0)] a w→K8 a w:=by
     intro y10 a w H;refine k33 _ _ ?_;refine QaD mixed [] H (fun _=>.o (Qay z1 .k)<|.q 0 rfl<|.nil _ _) (by kernel_rfl) (fun _ a w H=>?_);have H:=H.to [1,2,3,4,5,6,7,8,9] [_,_,_,_,_,_,_,_,_] [_,_,_,_,_,_,_,_] rfl rfl;exact k30 _ _ _ (sj h).symm ⟨y10,(H.pick [1,0,2,3,4,5,6,7,8]).selA [6,0,1,2,3,4,5,7] rfl⟩
    replace h:=h18;clear h18;refine Qe8 0 H rfl (fun b9=>?_) (fun b9=>?_)
    ·replace h:=QcW b9 h;refine Qag (fun _ k36=>?_);have⟨t8,h19,u4,h20,h⟩:=bs2 h;refine QaD mixed [v1 5 (fun v0=>own rI 3 (s5.2++t8) v0),v1 5 (fun v0=>box (rVal.cs v0) (m2 0))] H (fun _=>.u [7] rfl rfl (QaQ QaW z4)<|.u [5] rfl rfl (QaQ Qd6 z8)<|.q 3 rfl<|.u [4] rfl rfl (Qae ud68 Qf9 z1 z0 h19)<|.u [4] rfl rfl (QdR Qf9 z0 h19)<|.e [] [0] [8] rfl rfl rfl rfl (QaP (R:=rI) ud22 tok3 (leb rfl) z4 (.left z0) h20)<|.e [8] [7] [9] rfl rfl rfl rfl (Qcs (R:=rI) (e:=3) (Ts:=(rVal.cs y9)) QaW z10 z0 (leb rfl))<|.nil _ _) (by kernel_rfl) (fun m5 a w H=>?_);have H:=H.to [1,5,7,8,9,10,11,12,13,14,15,16] [_,_,_,_,_,_,_,_,_,_,_,_] [_,_,_,_,_,_,_,_] rfl rfl;refine k36 _ _ ?_;refine Qag (fun _ k37=>?_);have⟨t9,h21,h⟩:=bs h;refine QaD mixed [] H (fun _=>.u [4] rfl rfl (QaQ Qd6 z8)<|.q 3 rfl<|.u [3] rfl rfl (Qae ud68 Qf9 z1 z0 h21)<|.u [3] rfl rfl (QdR Qf9 z0 h21)<|.o (Qnm ud22 z0)<|.nil _ _) (by kernel_rfl) (fun _ a w H=>?_);have H:=H.to [0,4,5,6,8,9,10,11,12,13,14,15,16] [_,_,_,_,_,_,_,_,_,_,_,_,_] [_,_,_,_,_,_,_,_] rfl rfl;refine k37 _ _ ?_;have⟨p7,h22,h⟩:=bs h;have J7:∀(y11:Value) a w,St M w0 168 [(61,ti (x_.Kinds.length:Int)),(62,ti s5.1),(12,tv (m2 0)),(11,tptr ((rInt .u64).cs m41)),(10,tv (m1 0)),(8,tv (m0 2)),(7,tptr (rI.cs (x_.Kinds.length:Int))),(6,tptr ((rPtr QF).cs t1)),(4,tptr ((rSl rS).cs t0.1))] [LB43,ownN rI 3 s1 y0,glo,own (rSn rI) 22 p0 (m0 1),box (rVal.cs (m0 1)) (m0 2),box (rVal.cs y0) (m1 0),own rI 3 p7 y11,box (rVal.cs y11) (m2 0)] a w→K8 a w:=by
      intro y11 a w H;obtain rfl:=sj h;exact J6 y11 _ _ (H.pick [0,1,2,3,4,5,6,7,8])
     replace h:=h22;clear h22;refine Qe8 1 H rfl (fun b10=>?_) (fun b10=>?_)
     ·replace h:=QcW b10 h;have⟨t10,h23,h⟩:=bs h;refine QaD mixed [v1 3 (fun v0=>own rI 3 t10 v0),v1 3 (fun v0=>box (rVal.cs v0) (m2 0))] H (fun _=>.o (Q3 QhX z12)<|.o (Qe4 ud25 z0)<|.o (Qay z0 .k)<|.m [] [8] rfl rfl rfl (Qhy (R:=rI) ud22 tok3 zok3 (leb rfl) z0 z0 h23)<|.e [8] [7] [9] rfl rfl rfl rfl (Qcs (R:=rI) (e:=3) (Ts:=(rVal.cs (m5 5))) QaW z10 z0 (leb rfl))<|.nil _ _) (by kernel_rfl) (fun m6 a w H=>?_);have H:=H.to [3,4,6,7,8,9,10,11,12,13,14,15,16] [_,_,_,_,_,_,_,_,_,_,_,_,_] [_,_,_,_,_,_,_,_,_] rfl rfl;obtain rfl:=sj h;exact J7 (m6 3) _ _ ((H.pick [4,5,6,7,8,9,10,11,12]).selA [0,1,2,3,4,5,7,8] rfl)
     replace h:=QcX b10 h;refine Qe9 ?_;obtain rfl:=sj h;exact J7 (m5 5) _ _ (H.pick [4,5,6,7,8,9,10,11,12])
    replace h:=QcX b9 h;refine Qe9 ?_;obtain rfl:=sj h;exact J6 y9 _ _ ((H.pick [2,3,4,5,6,7,8,9,10]).selA [1,2,3,4,5,6,0,7] rfl)
   replace h:=QcX b8 h;refine Qgs ?_;exact J1 _ y9 _ _ (ho _ (sj h).symm) (H.pick [3,4,5,6,7,8,9])
  ·subst he;simp only at h;replace hpl:=hpm _ _ hpl;have H:=H.to [1,2,3,4,5] [_,_,_,_,_] [_,_,_,_,_,_] rfl rfl;refine k4 _ _ ?_;refine wp_seq_k (fun _ k38=>?_);replace H:St _ _ _ [_,_,_,_,_] [_,_,_,_,_,_] _ _:=(H.selA [1,0,2,3,4,5] rfl).unN;have⟨t11,h24,h⟩:=bs h;refine wr mx [v0 (own rI 3 t11 y0)] H (fun _=>.u [5] rfl rfl (QaQ QaW z0)<|.e [] [0] [6] rfl rfl rfl rfl (QC QtA (QjW h24) (.cons (.of z0)<|.nil))<|.n) fun _ a w H=>?_;replace H:St _ _ _ [_,_,_] [_,_,_,_] _ _:=(H.pick [0,2,6]).selA [0,1,4,5] rfl;refine k38 _ _ ?_;refine sr mx [] H (fun _=>.o (Qn .k)<|.n) fun _ a w H=>?_;replace H:St _ _ _ [_,_,_,_] [_,_,_,_,_] _ _:=(H.pick [0,1,2,3]).nil (rS) 9;refine wp_seq_k (fun K9 k39=>?_);refine sr mx [] H (fun _=>.u [3] rfl rfl (QaQ QaW z2)<|.u [4] rfl rfl (Qdx ud22 z0)<|.o (Qah .k)<|.n) fun _ a w H=>?_;replace H:St _ _ _ [_,_,_,_,_,_] [_,_,_,_] _ _:=(H.pick [0,1,2,3,4,6]).selA [0,1,2,4] rfl;have⟨e4,h25,h⟩:=bs h;have J8:∀(p8:List Str) (y12:Value) a w,p8=e4→St M w0 168 [(19,tv y12)] [own rS 9 p8 y12,objA D defO,glo] a w→K9 a w:=by
    intro p8 y12 a w he H;subst he;refine k39 _ _ ?_;refine sr mx [] H (fun _=>.q 0 rfl<|.o (Qn z0)<|.o (Qn .k)<|.n) fun _ a w H=>?_;have H:=H.to [0,1,2,3] [_,_,_,_] [_,_,_] rfl rfl;refine wp_ret ?_;replace H:St _ _ _ [_,_] [_,_] _ _:=(H.shareO 1 rfl).pick [0,3];obtain rfl:=sj h;exact QrM undef [] hpl H rfl (.tmp z0 (.tmp z1 .nil)) rfl rfl rfl
   refine wp_block ?_;refine QfU _ (fun (s6:Int×List Str) a w=>∃y13:Value,St M w0 168 [(153,tv y0),(154,ti (t11.length:Int)),(155,ti s6.1),(19,tv y13),(4,tptr ((rSl rS).cs t0.1))] [own rS 9 s6.2 y13,objA D defO,glo,own rI 3 t11 y0] a w) _ _ h25 ⟨(.slice none 0 0),H.pick [0,1,2,3,5]⟩ ?_;clear h;intro s6 o a w K10 hI h ho k40;obtain⟨y13,H⟩:=hI;refine sr mx [] H (fun _=>.o (QcO z2 z1)<|.n) fun _ a w H=>?_;have H:=H.to [0,1,2,3,4,5] [_,_,_,_,_,_] [_,_,_,_] rfl rfl;refine wp_seq_k (fun _ k41=>?_);refine wi H h (fun b11 h=>?_) (fun b11 h=>?_)
   ·refine wp_skip (k41 _ _ ?_);refine wp_seq_k (fun _ k42=>?_);refine wp_block ?_;have⟨t12,h26,h⟩:=bs h;refine sr mx [] H (fun _=>.u [3] rfl rfl (Qae ud22 tok3 z1 z3 h26)<|.u [3] rfl rfl (QdR tok3 z0 h26)<|.o (Qn z0)<|.n) fun _ a w H=>?_;have H:=H.to [2,4,5,6,7,8] [_,_,_,_,_,_] [_,_,_,_] rfl rfl;have⟨t13,h27,u5,h28,h⟩:=bs2 h;refine wr mx [v1 6 (fun v0=>own rS 9 (s6.2++[t13]) v0)] H (fun _=>.q 4 rfl<|.o (Q3 QhX z6)<|.q 2 rfl<|.o (QdP ud25 tok9 z1 z0 h27)<|.o (Q3 tok9 z0)<|.o (Qao (R:=rS) (us:=[t13]) ud25 tok9 (.cons z0<|.nil _) rfl (leb rfl))<|.e [] [0] [4] rfl rfl rfl rfl (QaP (R:=rS) ud25 tok9 (leb rfl) z5 z0 h28)<|.ud (f:=fun v=>tv v) 6 rfl [] rfl rfl (Qn z0)<|.n) fun m7 a w H=>?_;have H:=H.to [6,7,9,10,11,12] [_,_,_,_,_,_] [_,_,_,_] rfl rfl;refine k42 _ _ ?_;refine wr mx [] H (fun _=>.o (Qay z4 .k)<|.q 0 rfl<|.n) fun _ a w H=>?_;have H:=H.to [1,2,3,4,5,6] [_,_,_,_,_,_] [_,_,_,_] rfl rfl;exact k40 _ _ _ (sj h).symm ⟨(m7 6),(H.pick [3,4,0,2,5]).selA [3,0,1,2] rfl⟩
   refine wp_exit ?_;exact J8 _ y13 _ _ (ho _ (sj h).symm) ((H.pick [4]).selA [0,1,2] rfl)
  subst he;simp only at h;cases h
 refine wp_block ?_;refine QfU _ (fun (s7:Int×List (List Int)) a w=>St M w0 168 [(44,ti (t2.length:Int)),(45,ti s7.1),(8,tv (m0 2)),(7,tptr (rI.cs (x_.Kinds.length:Int))),(6,tptr ((rPtr QF).cs t1)),(4,tptr ((rSl rS).cs t0.1))] [glo,own (rSn rI) 22 s7.2 (m0 1),box (rVal.cs (m0 1)) (m0 2)] a w) _ _ h3 (H.pick [1,2,4,5,6,7]) ?_;clear h;intro s7 o a w K11 hI h ho k43;have H:=hI;clear hI;refine sr mx [] H (fun _=>.o (QcO z1 z0)<|.n) fun _ a w H=>?_;have H:=H.t7_3 [0,1,2,3,4,5,6];refine wp_seq_k (fun _ k44=>?_);refine wi H h (fun b12 h=>?_) (fun b12 h=>?_)
 ·refine wp_skip (k44 _ _ ?_);refine wp_seq_k (fun _ k45=>?_);refine wp_block ?_;refine sr mx [] H (fun _=>.q 2 rfl<|.o (Qn z0)<|.n) fun _ a w H=>?_;have H:=H.t7_3 [1,3,4,5,6,7,8];have⟨t14,h29,t15,h30,h⟩:=bs2 h;refine wr mx [v0 (own (rSn rI) 22 t15 (m0 1))] H (fun _=>.u [2] rfl rfl (QaQ Qd6 z3)<|.q 1 rfl<|.o (Q3 Qha z7)<|.q 3 rfl<|.o (QC Qtw (QjH.ok h29) (.cons (.of z1)<|.cons (.of z0)<|.cons (.of (Fct.weak .fnE (Qd5 QoT (fun _ _ hq=>Qk3.ok hq))))<|.nil))<|.u [1] rfl rfl (Qg9 ud68 Qf9 z4 z3 h30)<|.e [] [1] [3] rfl rfl rfl rfl (QhV Qf9 z0 z1 h30)<|.n) fun _ a w H=>?_;have H:=H.t7_3 [0,7,8,9,10,11,12];refine k45 _ _ ?_;refine wr mx [] H (fun _=>.o (Qay z2 .k)<|.q 0 rfl<|.n) fun _ a w H=>?_;have H:=H.t7_3 [1,2,3,4,5,6,7];exact k43 _ _ _ (sj h).symm ((H.pick [2,0,3,4,5,6]).selA [0,2,1] rfl)
 refine wp_exit ?_;exact J0 _ _ _ (ho _ (sj h).symm) (H.pick [3,4,5,6])
noncomputable def Qdo (a_:(List Str)) (b_:(List Str)):Option (Bool):=(if ((a_.length:Int) !=(b_.length:Int))=true then (some false) else (Qo (fun (s0:Int)=>((if (decide (s0<(a_.length:Int)))=true then (idx a_ s0).bind fun t0=>(idx b_ s0).bind fun t1=>(if (t0 !=t1)=true then (some (.inr (.inr false))) else (some (.inl (i64.wrap (s0+1))))) else (some (.inr (.inl ())))):Option ((Int)⊕((Unit)⊕(Bool))))) (0:Int)).bind fun e0=>(match e0 with | .inl _=>(some true) | .inr p0=>(some p0)))
instance Qj9:Spc2 prog 20 Qdo (fun a_ b_=>[tsl rS a_,tsl rS b_]) tb:=.mk fun {a_ b_ r} h=>by
 unfold Qdo at h
 refine Fe func20 ntmps20 fun M0 M w0 hpl=>?_
 refine Qc [1,2] ?_
 refine tIfs h [4,5,6] (fun _ h=>?_) (fun _ h=>?_)
 ·refine Qc [0] ?_
  exact Qt h (·▸Qr hpl)
 refine Ql fun K0 k0=>?_
 refine Qc [0,2,3] ?_
 have⟨e0,h0,h⟩:=bs h
 have J0:∀(p0:Unit),(.inl p0)=e0→To M w0 26 [] [] K0:=by
  intro p0 he;subst he;simp only at h;refine k0 ?_;refine Qc [0] ?_;exact Qt h (·▸Qr hpl)
 have J1:∀(p1:Bool),(.inr p1)=e0→To M w0 26 [(4,tb p1)] [] (Ret prog f20 M0 [] w0 (fun _=>[]) (fun _=>tb r) .ret):=by
  intro p1 he;subst he;simp only at h;obtain rfl:=sj h;exact Qr hpl
 refine Qu ?_;refine QaY h0 (fun (s0:Int)=>[(5,ti s0),(0,tsl rS a_),(1,tsl rS b_)]) (fun (s0:Int)=>[]) [0,1,2] ?_;clear h;intro s0 o K1 h ho k1;refine Ql fun _ k2=>?_;refine Qc [3,4,5,6] ?_;refine Qz h (fun _ h=>?_) (fun _ h=>?_)
 ·refine QB ?_;refine k2 ?_;refine Ql fun _ k3=>?_;refine Qu ?_;have⟨_,_,_,_,h⟩:=bs2 h;refine Qc [8,10,11,12] ?_;refine Qz h (fun _ h=>?_) (fun _ h=>?_)
  ·refine Qc [0] ?_;refine Qa5 ?_;exact QO J1 (ho _ (sj h).symm) [0]
  refine QB ?_;refine k3 ?_;refine Q2 [2,4,5] ?_;exact QO k1 ((sj h).symm) [0,1,2]
 refine Q5 ?_;exact QO J0 (ho _ (sj h).symm) []
noncomputable def QbJ (s_:(List Str)) (v_:Str):Option (Int):=(Qo (fun (s0:Int)=>((if (decide (s0<(s_.length:Int)))=true then (idx s_ s0).bind fun t0=>(if (v_==t0)=true then (some (.inr (.inr s0))) else (some (.inl (i64.wrap (s0+1))))) else (some (.inr (.inl ())))):Option ((Int)⊕((Unit)⊕(Int))))) (0:Int)).bind fun e0=>(match e0 with | .inl _=>(some (-1:Int)) | .inr p0=>(some p0))
instance Qql:Spc2 prog 44 QbJ (fun s_ v_=>[tsl rS s_,tv (.string (sB v_))]) ti:=.mk fun {s_ v_ r} h=>by
 unfold QbJ at h
 refine Fe func44 ntmps44 fun M0 M w0 hpl=>?_
 refine Qc [1,2] ?_
 refine Ql fun K0 k0=>?_
 refine Qc [1,2,3,4] ?_
 have⟨e0,h0,h⟩:=bs h
 have J0:∀(p0:Unit),(.inl p0)=e0→To M w0 19 [] [] K0:=by
  intro p0 he;subst he;simp only at h;refine k0 ?_;refine Qc [0] ?_;exact Qt h (·▸Qr hpl)
 have J1:∀(p1:Int),(.inr p1)=e0→To M w0 19 [(4,ti p1)] [] (Ret prog f44 M0 [] w0 (fun _=>[]) (fun _=>ti r) .ret):=by
  intro p1 he;subst he;simp only at h;obtain rfl:=sj h;exact Qr hpl
 refine Qu ?_;refine QaY h0 (fun (s0:Int)=>[(7,ti (s_.length:Int)),(8,ti s0),(0,tsl rS s_),(1,tv (.string (sB v_)))]) (fun (s0:Int)=>[]) [0,1,2,3] ?_;clear h;intro s0 o K1 h ho k1;refine Qc [0,1,2,3,4] ?_;refine Ql fun _ k2=>?_;refine Qz h (fun _ h=>?_) (fun _ h=>?_)
 ·refine QB ?_;refine k2 ?_;refine Ql fun _ k3=>?_;refine Qu ?_;refine Qc [1,3,4,5,6] ?_;have⟨_,_,h⟩:=bs h;refine Qc [5,6,7,8,9,10] ?_;refine Qz h (fun _ h=>?_) (fun _ h=>?_)
  ·refine Qc [1] ?_;refine Qa5 ?_;exact QO J1 (ho _ (sj h).symm) [0]
  refine QB ?_;refine k3 ?_;refine Q2 [1,4,5,6] ?_;exact QO k1 ((sj h).symm) [1,0,2,3]
 refine Q5 ?_;exact QO J0 (ho _ (sj h).symm) []
noncomputable def QdX (s_:(List Int)) (v_:Int):Option (Int):=(Qo (fun (s0:Int)=>((if (decide (s0<(s_.length:Int)))=true then (idx s_ s0).bind fun t0=>(if (v_==t0)=true then (some (.inr (.inr s0))) else (some (.inl (i64.wrap (s0+1))))) else (some (.inr (.inl ())))):Option ((Int)⊕((Unit)⊕(Int))))) (0:Int)).bind fun e0=>(match e0 with | .inl _=>(some (-1:Int)) | .inr p0=>(some p0))
instance QsM:Spc2 prog 155 QdX (fun s_ v_=>[tsl rI s_,ti v_]) ti:=.mk fun {s_ v_ r} h=>by
 unfold QdX at h
 refine Fe func155 ntmps155 fun M0 M w0 hpl=>?_
 refine Qc [1,2] ?_
 refine Ql fun K0 k0=>?_
 refine Qc [1,2,3,4] ?_
 have⟨e0,h0,h⟩:=bs h
 have J0:∀(p0:Unit),(.inl p0)=e0→To M w0 19 [] [] K0:=by
  intro p0 he;subst he;simp only at h;refine k0 ?_;refine Qc [0] ?_;exact Qt h (·▸Qr hpl)
 have J1:∀(p1:Int),(.inr p1)=e0→To M w0 19 [(4,ti p1)] [] (Ret prog f155 M0 [] w0 (fun _=>[]) (fun _=>ti r) .ret):=by
  intro p1 he;subst he;simp only at h;obtain rfl:=sj h;exact Qr hpl
 refine Qu ?_;refine QaY h0 (fun (s0:Int)=>[(7,ti (s_.length:Int)),(8,ti s0),(0,tsl rI s_),(1,ti v_)]) (fun (s0:Int)=>[]) [0,1,2,3] ?_;clear h;intro s0 o K1 h ho k1;refine Qc [0,1,2,3,4] ?_;refine Ql fun _ k2=>?_;refine Qz h (fun _ h=>?_) (fun _ h=>?_)
 ·refine QB ?_;refine k2 ?_;refine Ql fun _ k3=>?_;refine Qu ?_;refine Qc [1,3,4,5,6] ?_;have⟨_,_,h⟩:=bs h;refine Qc [5,6,7,8,9,10] ?_;refine Qz h (fun _ h=>?_) (fun _ h=>?_)
  ·refine Qc [1] ?_;refine Qa5 ?_;exact QO J1 (ho _ (sj h).symm) [0]
  refine QB ?_;refine k3 ?_;refine Q2 [1,4,5,6] ?_;exact QO k1 ((sj h).symm) [1,0,2,3]
 refine Q5 ?_;exact QO J0 (ho _ (sj h).symm) []
noncomputable def QcZ (s_:(List Int)) (v_:Int):Option (Bool):=(QdX s_ v_).bind fun t0=>(some (decide (t0≥0)))
instance Qqm:Spc2 prog 103 QcZ (fun s_ v_=>[tsl rI s_,ti v_]) tb:=.mk fun {s_ v_ r} h=>by
 unfold QcZ at h
 refine Fe func103 ntmps103 fun M0 M w0 hpl=>?_
 refine Qc [1,2] ?_
 have⟨_,_,h⟩:=bs h
 refine Qc [4] ?_
 exact Qt h (·▸Qr hpl)
noncomputable def Qax (i_:Int) (c0_:(List Int)):Option (Bool):=(QcZ c0_ i_).bind fun t0=>(some t0)
instance Qjf:Spc2 prog 102 Qax (fun i_ c0_=>[ti i_,tptr ((rSl rI).cs c0_)]) tb:=.mk fun {i_ c0_ r} h=>by
 unfold Qax at h
 refine Fe func102 ntmps102 fun M0 M w0 hpl=>?_
 refine Qc [1,2] ?_
 have⟨_,_,h⟩:=bs h
 refine Qc [3] ?_
 exact Qt h (·▸Qr hpl)
noncomputable def Qb7 (i_:Int) (c0_:(Int→Option Bool)) (c1_:QaI):Option (Bool):=(c0_ (i64.wrap ((c1_.limits.length:Int)+i_))).bind fun t0=>(some t0)
instance Qjg:Spc3 prog 104 Qb7 (fun i_ c0_ c1_=>[ti i_,tptr (rF81.cs c0_),tptr ((rPtr QF).cs c1_)]) tb:=.mk fun {i_ c0_ c1_ r} h=>by
 unfold Qb7 at h
 refine Fe func104 ntmps104 fun M0 M w0 hpl=>?_
 refine Qc [1,2,3] ?_
 have⟨_,_,h⟩:=bs h
 refine Qc [9] ?_
 exact Qt h (·▸Qr hpl)
noncomputable def QdI (k_:Int) (c0_:QaI) (c1_:(Int→Option Bool)):Option (Bool):=(Qcf c0_ k_ c1_).bind fun t0=>(some (!t0.isEmpty))
instance Qr9:Spc3 prog 105 QdI (fun k_ c0_ c1_=>[ti k_,tptr ((rPtr QF).cs c0_),tptr (rF81.cs c1_)]) tb:=.mk fun {k_ c0_ c1_ r} h=>by
 unfold QdI at h
 refine Fe func105 ntmps105 fun M0 M w0 hpl=>?_
 refine Qc [1,2,3] ?_
 have⟨_,_,h⟩:=bs h
 refine Qc [5] ?_
 exact Qt h (·▸Qr hpl)
noncomputable def Qcp (s_:QaI) (some_:(List Int)):Option (Bool):=(Qat s_ (fun x0=>Qax x0 some_) (fun x0=>QdI x0 s_ (fun x0=>Qb7 x0 (fun x0=>Qax x0 some_) s_))).bind fun t0=>(some t0)
instance QgP:Spc2 prog 45 Qcp (fun s_ some_=>[tptr (QF.cs s_),tsl rI some_]) tb:=.mk fun {s_ some_ r} h=>by
 unfold Qcp at h
 refine Fe func45 ntmps45 fun M0 M w0 hpl=>?_
 refine Qc [0,1] ?_
 intro a w H
 refine sr mx [v1 1 (fun v0=>box [tvs .nilFunc] v0),v1 1 (fun v0=>box (rF81.cs (fun x0=>Qax x0 some_)) v0)] H (fun _=>.o (Qhz (.cons z1<|.nil))<|.m [] [0] rfl rfl rfl (Qbn (R:=rVal) (a:=.nilFunc) Qq2 zokPf)<|.e [] [0] [1] rfl rfl rfl rfl (QaO (R:=rF81) (a:=(fun x0=>Qax x0 some_)) QrW z0 (Fct.weak z1 (Qd5 QqO (fun _ _ hq=>Qjf.ok hq))) (leb rfl))<|.n) fun _ a w H=>?_
 replace H:St _ _ _ [_,_] [] _ _:=(((H.pick [1,2]).shareB 0 rfl).add 0 rfl (fun _ _ _ h=>h.2)).pick [0,3]
 refine QS H ?_
 intro a w H
 refine sr mx [v1 1 (fun v0=>box [tvs .nilFunc] v0),v1 1 (fun v0=>box (rF81.cs (fun x0=>Qb7 x0 (fun x0=>Qax x0 some_) s_)) v0)] H (fun _=>.o (Qhz (.cons z0<|.cons z1<|.nil))<|.m [] [0] rfl rfl rfl (Qbn (R:=rVal) (a:=.nilFunc) Qq2 zokPf)<|.e [] [0] [1] rfl rfl rfl rfl (QaO (R:=rF81) (a:=(fun x0=>Qb7 x0 (fun x0=>Qax x0 some_) s_)) QrW z0 (Fct.weak z1 (Qd5 QqP (fun _ _ hq=>Qjg.ok hq))) (leb rfl))<|.n) fun _ a w H=>?_
 replace H:St _ _ _ [_,_,_] [] _ _:=(((H.pick [1,2,3]).shareB 0 rfl).add 0 rfl (fun _ _ _ h=>h.2)).pick [0,3,4]
 refine QS H ?_
 have⟨_,_,h⟩:=bs h
 refine Qc [4] ?_
 exact Qt h (·▸Qr hpl)
noncomputable def QdY (s_:(List Int)):Option ((List Int)):=(rm (([]:List Int).length+s_.length)).bind fun _=>(some (([]:List Int)++s_))
instance QjI:SpcS prog 47 (∀{s_:(List Int)} {r:(List Int)},QdY s_=some r→FnOk prog 47 [tsl rI s_] [] (fun v=>[own rI 3 r v]) (fun v=>tv v)):=.mk fun {s_ r} h=>by
 unfold QdY at h
 refine Fe func47 ntmps47 fun M0 M w0 hpl=>?_
 refine Qc [1] ?_
 refine Ql fun _ k0=>?_
 refine Qc [1,2] ?_
 refine tTestN 0 (fun b0=>?_) ?_
 ·replace h:(some ([]:List Int))=some r:=by
   have⟨_,_,h⟩:=bs h;rw[b0] at h;exact h
  refine Qc [0] ?_;refine Q0 (fun _ _ H=>H.nil (rI) 3) ?_;exact Qt h (·▸Qcu (.slice none 0 0) [0] hpl)
 refine QB ?_;refine k0 ?_;have⟨_,_,h⟩:=bs h;refine QJ [v1 0 (fun v0=>own rI 3 ([]:List Int) v0),v1 2 (fun v0=>own rI 3 (([]:List Int)++s_) v0)] [1,3] [2,3] fun m0=>?_;exact Qt h (·▸Qcu (m0 2) [0] hpl)
noncomputable def QfI (x_:Qa) (names_:(List Str)):Option (Int):=(QeR x_).bind fun t0=>(if (t0.2 !=0)=true then (some t0.2) else (QeS x_).bind fun t1=>(if (decide ((t1.limits.length:Int)>16))=true then (some (4:Int)) else (Qo (fun (s0:Int×List Int)=>((if (decide (s0.1<(names_.length:Int)))=true then (idx names_ s0.1).bind fun t2=>(QbJ t0.1 t2).bind fun t3=>(opt (((decide (t3<0))==false)&&((decide ((s0.2.length:Int)>0))==true)) (idx s0.2 (i64.wrap ((s0.2.length:Int) - 1))) default).bind fun t4=>(if ((decide (t3<0))||((decide ((s0.2.length:Int)>0))&&(decide (t3≤t4))))=true then (some (.inr (.inr (12:Int)))) else (rm (s0.2.length+[t3].length)).bind fun _=>(some (.inl ((i64.wrap (s0.1+1)),(s0.2++[t3]))))) else (some (.inr (.inl s0.2)))):Option ((Int×List Int)⊕((List Int)⊕(Int))))) ((0:Int),([]:List Int))).bind fun e0=>(match e0 with | .inl p0=>(Qcp t1 p0).bind fun t5=>(if t5=true then (some (15:Int)) else (Qo (fun (s1:Int)=>((if (decide (s1<(p0.length:Int)))=true then (QdY p0).bind fun t6=>(QdC t6 s1 (i64.wrap (s1+1))).bind fun t7=>(Qcp t1 t7).bind fun t8=>(if (!t8)=true then (some (.inr (.inr (15:Int)))) else (some (.inl (i64.wrap (s1+1))))) else (some (.inr (.inl ())))):Option ((Int)⊕((Unit)⊕(Int))))) (0:Int)).bind fun e1=>(match e1 with | .inl _=>(some (0:Int)) | .inr p1=>(some p1))) | .inr p2=>(some p2))))
instance Qn9:SpcS prog 11 (∀{x_:Qa} {names_:(List Str)} {r:Int},QfI x_ names_=some r→FnOk prog 11 [Qf.ty x_,tsl rS names_] [glo] (fun _=>[]) (fun _=>ti r)):=.mk fun {x_ names_ r} h=>by
 unfold QfI at h
 refine Fe func11 ntmps11 fun M0 M w0 hpl=>?_
 refine Qc [0,3] ?_
 have⟨t0,_,h⟩:=bs h
 refine Qc [5,6,7,8] ?_
 refine tIfs h [1,2,3,4,5] (fun _ h=>?_) (fun _ h=>?_)
 ·refine Qc [1] ?_
  exact Qt h (·▸Qr hpl)
 have⟨t1,_,h⟩:=bs h
 refine Qc [2,4,7] ?_
 refine tIfs h [5,6,7,8] (fun _ h=>?_) (fun _ h=>?_)
 ·refine Qc [0] ?_
  exact Qt h (·▸Qr hpl)
 refine Qc [0,2,3,4] ?_
 refine Q0 (fun _ _ H=>H.nil (rI) 3) ?_
 refine Ql fun K0 k0=>?_
 refine Qc [0,1,2,3,4,5] ?_
 have⟨e0,h0,h⟩:=bs h
 have J0:∀(p0:List Int) (y0:Value),(.inl p0)=e0→To M w0 78 [(8,tv y0),(7,tptr (QF.cs t1))] [own rI 3 p0 y0,glo] K0:=by
  intro p0 y0 he;subst he;simp only at h;refine k0 ?_;refine Ql fun _ k1=>?_;have⟨t2,h1,h⟩:=bs h;intro a w H;refine sr mx [] H (fun _=>.q 1 rfl<|.q 1 rfl<|.u [0] rfl rfl (Qe6 [own rI 3 p0 y0] QoX (QgP.ok h1) (.cons (.of z1)<|.cons (.own z0 (.head _))<|.nil) (fun _=>Qc5) (fun _=>QgJ (x:=undef)))<|.n) fun _ a w H=>?_;have H:=H.to [1,2,3,4] [_,_,_,_] [_,_] rfl rfl;refine QS H ?_;refine QfE 1 (fun b0=>?_) (fun b0=>?_)
  ·replace h:=QcW b0 h;refine Qc [0,1,3] ?_;exact Qt h (·▸Qr hpl)
  replace h:=QcX b0 h;refine QB ?_;refine k1 ?_;refine Ql fun K1 k2=>?_;refine Qc [0,1,2,3,5,6] ?_;have⟨e1,h2,h⟩:=bs h;have J1:∀(p1:Unit),(.inl p1)=e1→To M w0 78 [] [glo] K1:=by
   intro p1 he;subst he;simp only at h;refine k2 ?_;refine Qc [0] ?_;exact Qt h (·▸Qr hpl)
  have J2:∀(p2:Int),(.inr p2)=e1→To M w0 78 [(4,ti p2)] [glo] (Ret prog f11 M0 [glo] w0 (fun _=>[]) (fun _=>ti r) .ret):=by
   intro p2 he;subst he;simp only at h;obtain rfl:=sj h;exact Qr hpl
  refine Qu ?_;refine QaY h2 (fun (s0:Int)=>[(64,ti (p0.length:Int)),(65,ti s0),(8,tv y0),(7,tptr (QF.cs t1))]) (fun (s0:Int)=>[own rI 3 p0 y0,glo]) [1,2,4,5] ?_;clear h;intro s0 o K2 h ho k3;refine Qc [0,1,2,3,4] ?_;refine Ql fun _ k4=>?_;refine Qz h (fun _ h=>?_) (fun _ h=>?_)
  ·refine QB ?_;refine k4 ?_;refine Ql fun _ k5=>?_;refine Qu ?_;refine Qc [1,3,4,5,6] ?_;have⟨t3,h3,_,h4,t4,h5,h⟩:=bs3 h;intro a w H;refine sr mx [v1 2 (fun v0=>own rI 3 t3 v0)] H (fun _=>.q 4 rfl<|.q 4 rfl<|.m [0] [2] rfl rfl rfl (Qe6 [own rI 3 p0 y0] QtC (QjI.ok h3) (.cons (.own z0 (.head _))<|.nil) (fun _=>Qc5) (fun _=>flatN1 (Qvk (by intro x T h;simp at h;(first | (subst h;exact Qc5) | (rcases h with h | h | h<;>subst h<;>exact Qc5))))))<|.q 3 rfl<|.q 4 rfl<|.o (Qay z0 .k)<|.e [] [2] [] rfl rfl rfl rfl (QC QtB ((Qjb h4).roE Qxb) (.cons (.of z3)<|.cons (.of z2)<|.cons (.of z0)<|.nil))<|.o (QC QoX (QgP.ok h5) (.cons (.of z6)<|.cons (.of z0)<|.nil))<|.o (Qin z0)<|.n) fun _ a w H=>?_;have H:=H.to [1,8,10,11,12,13] [_,_,_,_,_,_] [_,_] rfl rfl;refine QS H ?_;refine QfE 1 (fun b1=>?_) (fun b1=>?_)
   ·replace h:=QcW b1 h;refine Qc [0,1,5] ?_;refine Qa5 ?_;refine Qaj (fun _ _ H=>(H.pick [0]).selA [1] rfl) ?_;exact QO J2 (ho _ (sj h).symm) [0]
   replace h:=QcX b1 h;refine QB ?_;refine k5 ?_;refine Q2 [1,2,4,5,6] ?_;exact QO k3 ((sj h).symm) [2,0,3,4]
  refine Q5 ?_;refine Qaj (fun _ _ H=>(H.pick []).selA [1] rfl) ?_;exact QO J1 (ho _ (sj h).symm) []
 have J3:∀(p3:Int),(.inr p3)=e0→To M w0 78 [(4,ti p3)] [glo] (Ret prog f11 M0 [glo] w0 (fun _=>[]) (fun _=>ti r) .ret):=by
  intro p3 he;subst he;simp only at h;obtain rfl:=sj h;exact Qr hpl
 refine Qu ?_;refine Qa7 h0 (fun (s1:Int×List Int) (y1:Value)=>[(29,tsl rS names_),(30,ti (names_.length:Int)),(31,ti s1.1),(8,tv y1),(7,tptr (QF.cs t1)),(5,tsl rS t0.1)]) (fun (s1:Int×List Int) (y1:Value)=>[own rI 3 s1.2 y1,glo]) (.slice none 0 0) [0,1,2,3,4,5] ?_;clear h;intro s1 y1 o K3 h ho k6;refine Qc [0,1,2,3,4,5,6] ?_;refine Ql fun _ k7=>?_;refine Qz h (fun _ h=>?_) (fun _ h=>?_)
 ·refine QB ?_;refine k7 ?_;refine Ql fun _ k8=>?_;refine Qu ?_;have⟨_,_,h⟩:=bs h;refine Qc [2,4,5,6,7,8,9] ?_;have⟨t5,_,h⟩:=bs h;refine Qc [3,5,6,7,8,9,10] ?_;have⟨_,_,h⟩:=bs h;refine tIfs h [16,17,18,19,20,21,22,23] (fun _ h=>?_) (fun _ h=>?_)
  ·refine Qc [0,6] ?_;refine Qa5 ?_;refine Qaj (fun _ _ H=>(H.pick [0]).selA [1] rfl) ?_;exact QO J3 (ho _ (sj h).symm) [0]
  have⟨_,_,h⟩:=bs h;refine QaF [v1 3 (fun v0=>own rI 3 (s1.2++[t5]) v0)] [4] [3,4,7,8,9,10,11] fun m0=>?_;refine k8 ?_;refine Q2 [1,2,3,4,5,6,7] ?_;refine Qaj (fun _ _ H=>(H.pick [3,4,0,2,5,6]).selA [1,0] rfl) ?_;exact Q6 k6 (m0 3) ((sj h).symm) [0,1,2,3,4,5]
 refine Q5 ?_;exact Q6 J0 y1 (ho _ (sj h).symm) [4,5]
noncomputable def Qdp:Option (Bool):=(Qcm (1:Int)).bind fun t0=>(QdH t0).bind fun t1=>(Qcm (0:Int)).bind fun t2=>(QdH t2).bind fun t3=>(opt (((t1.2==0)&&(t3.2==6))==true) (Qdo t1.1 [([97,32,108,101,97,115,116]:Str),([97,46,110,32,104,105,103,104]:Str),([114,117,108,101,58,114]:Str)]) default).bind fun t4=>(opt ((((t1.2==0)&&(t3.2==6))&&t4)==true) (Qcm (1:Int)) default).bind fun t5=>(opt ((((t1.2==0)&&(t3.2==6))&&t4)==true) (QfI t5 t1.1) default).bind fun t6=>(some ((((t1.2==0)&&(t3.2==6))&&t4)&&(t6==0)))
instance QmZ:SpcS prog 13 (∀{r:Bool},Qdp=some r→FnOk prog 13 [] [glo] (fun _=>[]) (fun _=>tb r)):=.mk fun {r} h=>by
 unfold Qdp at h
 refine Fe func13 ntmps13 fun M0 M w0 hpl=>?_
 refine Qc [] ?_
 have⟨_,_,t0,_,h⟩:=bs2 h
 refine Qc [5,6] ?_
 have⟨_,_,t1,_,h⟩:=bs2 h
 refine Qc [6,7,8] ?_
 have⟨t2,h0,_,h1,t3,h2,h⟩:=bs3 h
 intro a w H
 refine sr mx [] H (fun _=>.q 2 rfl<|.o (QcA z0 .k)<|.q 0 rfl<|.g rfl rfl bq0 (fun _=>Qah z3)<|.g rfl rfl bq1 (fun hc=>QcA (.cond z0 hc) .k)<|.o (QcP z2 (fun hp=>(.cond z0 (beqT hp))))<|.q 0 rfl<|.g rfl rfl bq0 (fun _=>Qah z8)<|.g rfl rfl bq1 (fun _=>Qao (R:=rS) (us:=[([97,32,108,101,97,115,116]:Str),([97,46,110,32,104,105,103,104]:Str),([114,117,108,101,58,114]:Str)]) ud25 tok9 (.cons .k<|.cons .k<|.cons .k<|.nil _) rfl (leb rfl))<|.g rfl rfl bq2 (fun hc=>QC Qtu (Qj9.ok (Qfq h0 hc)) (.cons (.of (.cond z1 hc))<|.cons (.of (.cond z0 hc))<|.nil))<|.o (QcP z3 (fun hp=>(.cond z0 (beqT hp))))<|.q 0 rfl<|.g rfl rfl bq0 (fun hc=>QC QtD (Qlm.ok (Qfq h1 hc)) (.cons (.of .k)<|.nil))<|.g rfl rfl bq1 (fun _=>Qah z14)<|.gu [0] rfl rfl rfl bq2 (fun hc=>(QC Qtq (Qn9.ok (Qfq h2 hc)) (.cons (.of (.cond z1 hc))<|.cons (.of (.cond z0 hc))<|.nil)).glo)<|.g rfl rfl bq3 (fun hc=>QcA (.cond z0 hc) .k)<|.o (QcP z4 (fun hp=>(.cond z0 (beqT hp))))<|.o (Qn z0)<|.n) fun _ a w H=>?_
 have H:=H.to [17] [_] [_] rfl rfl
 refine QS H ?_
 exact Qt h (·▸Qr hpl)
end Go.Proofs.YtlajingmjmnfgaaGreatDoor
