/- The walk. No condition. -/
import Derived.Test.YtlajingmjmnfgaaGreatDoorGenJ
set_option linter.all false
open List Go.Proofs.Tryz Go.IntKind
namespace Go.Proofs.YtlajingmjmnfgaaGreatDoor
noncomputable section
open Go.Sim
set_option maxRecDepth 100000
set_option maxHeartbeats 4000000
def Qgu (x_:Qb):Option ((List Str)×Int):=(Qf0 x_).bind λt0=>(if (t0.2 !=0)=true then (some (([]:List Str),t0.2)) else (Qf1 x_).bind λt1=>(if (decide ((t1.Xo.length:Int)>16))=true then (some (([]:List Str),(4:Int))) else (mk (x_.Xa.length:Int) ([]:(List Int))).bind λt2=>(Ql (λ(s0:Int×List (List Int))=>((if (decide (s0.1<(t2.length:Int)))=true then (QcU t1 s0.1 (λx0=>Qiq x0)).bind λt3=>(setAt s0.2 s0.1 t3).bind λt4=>(some (.inl ((i64.wrap (s0.1+1)),t4))) else (some (.inr s0.2))):Option ((Int×List (List Int))⊕((List (List Int)))))) ((0:Int),t2)).bind λp0=>(QaH t1 (λx0=>Qiq x0) (λx0=>Qg0 x0 p0)).bind λt5=>(if t5=true then (some (([]:List Str),(6:Int))) else (Qfe (λ(s1:List Int) (m41:Int)=>((Ql (λ(s2:Int×List Int)=>((if (decide (s2.1<(x_.Xa.length:Int)))=true then (nn s2.1).bind λ_=>((if ((iand .u64 (ishr .u64 m41 s2.1) (1:Int))==1)=true then (idx p0 s2.1).bind λt6=>(rm (s2.2.length+t6.length)).bind λ_=>(idx p0 s2.1).bind λt7=>((if (t7.isEmpty)=true then (mk (i64.wrap ((t0.1.length:Int)+1)) (0:Int)).bind λt8=>(some t8) else (some (s2.2++t6)))).bind λp1=>(some p1) else (some s2.2))).bind λp2=>(some (.inl ((i64.wrap (s2.1+1)),p2))) else (some (.inr s2.2))):Option ((Int×List Int)⊕((List Int))))) ((0:Int),([]:List Int))).bind λp3=>((Qfe (λ(s3:List Int) (m1394:Int)=>((Qcp m1394).bind λt9=>(if (((!s3.isEmpty)&&(decide ((i64.wrap ((p3.length:Int)+t9))>=(s3.length:Int))))||(decide ((i64.wrap ((p3.length:Int)+t9))>(t0.1.length:Int))))=true then (some (.inr s3)) else (QaH t1 (λx0=>QeO x0 m1394) (λx0=>QeP x0 m41)).bind λt10=>(if t10=true then (some (.inl s3)) else (Ql (λ(s4:Int×List Int)=>((if (decide (s4.1<(t1.Xo.length:Int)))=true then (nn s4.1).bind λ_=>((if ((iand .u64 (ishr .u64 m1394 s4.1) (1:Int))==1)=true then (rm (s4.2.length+[s4.1].length)).bind λ_=>(some (s4.2++[s4.1])) else (some s4.2))).bind λp4=>(some (.inl ((i64.wrap (s4.1+1)),p4))) else (some (.inr s4.2))):Option ((Int×List Int)⊕((List Int))))) ((0:Int),([]:List Int))).bind λp5=>(Ql (λ(s5:Int×List Int)=>((if (decide (s5.1<(p3.length:Int)))=true then (idx p3 s5.1).bind λt11=>(rm (s5.2.length+[(i64.wrap ((t1.Xo.length:Int)+t11))].length)).bind λ_=>(some (.inl ((i64.wrap (s5.1+1)),(s5.2++[(i64.wrap ((t1.Xo.length:Int)+t11))])))) else (some (.inr s5.2))):Option ((Int×List Int)⊕((List Int))))) ((0:Int),p5)).bind λp6=>(some (.inr p6)))):Option ((List Int)⊕(List Int)))) s1 (t1.Xo.length:Int)).bind λt12=>(match t12 with | .inl s3=>(some s3) | .inr s3=>(some s3))).bind λp7=>(some (.inl p7)):Option ((List Int)⊕(List Int)))) ([]:List Int) (x_.Xa.length:Int)).bind λt2=>(match t2 with | .inl s1=>(Qd8 s1).bind λt13=>(Ql (λ(s6:Int×List Str)=>((if (decide (s6.1<(t13.length:Int)))=true then (idx t13 s6.1).bind λt14=>(idx t0.1 t14).bind λt15=>(rm (s6.2.length+[t15].length)).bind λ_=>(some (.inl ((i64.wrap (s6.1+1)),(s6.2++[t15])))) else (some (.inr s6.2))):Option ((Int×List Str)⊕((List Str))))) ((0:Int),([]:List Str))).bind λp8=>(some (p8,(0:Int))) | .inr _=>none))))
instance Qso:SpcS prog 9 (∀{x_:Qb} {r:(List Str)×Int},Qgu x_=some r->FnOk prog 9 [Qd.ty x_] [glo] (λ_=>[]) (λ_=>ttup [tsl rS r.1,ti r.2])):=.mk λ{x_ r} h=>by
 unfold Qgu at h
 refine FnOk.enterM func9 rfl ntmps9 (leb rfl) (λM0 M w0 a hpl H=>?_)
 replace H:St M w0 168 [(0,Qd.ty x_)] [glo] a w0:=H
 refine sr mx [] H (λ_=>.o (Qmj (R:=Qd) (u:=x_) z0)<|.o (Qp (.nilsl (R:=rS)))<|.o (Qp .k)<|.n) λ_ a w H=>?_
 have H:=H.to [0] [_] [_] rfl rfl
 have⟨t0,h0,h⟩:=bs h
 refine sr mx [v1 5 (λv0=>box ((rSl rS).cs ([]:(List Str))) v0),v1 5 (λv0=>box ((rSl rS).cs t0.1) v0)] H (λ_=>.o (Qae Qcm z0)<|.u [0] rfl rfl ((QL QvN (Qqa.ok h0) (.cons (.of z0)<|.nil)).glo)<|.q 0 rfl<|.o (Qag z0 rfl)<|.o (Qag z1 rfl)<|.m [] [1] rfl rfl rfl (QbH (R:=(rSl rS)) (a:=([]:(List Str))) QiR zok25)<|.e [] [1] [2] rfl rfl rfl rfl (Qbd (R:=(rSl rS)) (a:=t0.1) QiR z0 z2 (leb rfl))<|.o (Qp z1)<|.n) λ_ a w H=>?_
 replace H:St _ _ _ [_,_,_] [_] _ _:=((((H.pick [5,6,7]).Xk [1,0] rfl).Xl 0 rfl).add 0 rfl (λ_ _ _ h=>h.2)).pick [0,3,4]
 refine wp_seq_k (λ_ k0=>?_)
 refine sr mx [] H (λ_=>.q 1 rfl<|.o (QqD z0 .k)<|.n) λ_ a w H=>?_
 have H:=H.t4_1 [1,2,3,4]
 refine wi H h (λb0 h=>?_) (λb0 h=>?_)
 ·refine sr mx [] H (λ_=>.q 2 rfl<|.o (Qp (.nilsl (R:=rS)))<|.o (Qp z1)<|.n) λ_ a w H=>?_
  have H:=H.t2_1 [1,2]
  refine wp_ret ?_
  obtain rfl:=sj h
  exact Qm4 (QeY undef [] hpl H rfl (.tmp z0 (.tmp z1 .nil)) rfl rfl rfl)
 refine wp_skip (k0 _ _ ?_)
 have⟨t1,h1,h⟩:=bs h
 refine sr mx [v1 2 (λv0=>box [tvs (.pointer none)] v0),v1 2 (λv0=>box ((rPtr QT).cs t1) v0)] H (λ_=>.o (Qae Qcm z3)<|.u [0] rfl rfl ((QL QvP (Qqb.ok h1) (.cons (.of z0)<|.nil)).glo)<|.m [] [1] rfl rfl rfl (QbH (R:=rVal) (a:=.pointer none) tokP73 zokP)<|.e [] [1] [2] rfl rfl rfl rfl (Qbd (R:=(rPtr QT)) (a:=t1) QiS z0 z1 (leb rfl))<|.n) λ_ a w H=>?_
 replace H:St _ _ _ [_,_,_] [_] _ _:=((((H.pick [2,4,6]).Xk [1,0] rfl).Xl 0 rfl).add 0 rfl (λ_ _ _ h=>h.2)).pick [0,3,4]
 refine wp_seq_k (λ_ k1=>?_)
 refine sr mx [] H (λ_=>.o (Qae QiS z0)<|.o (Qi3 z0)<|.o (Q7 Qkf z0)<|.o (Q5 (u:=t1.Xo) Qmq z0 rfl)<|.o (QfF ud75 z0)<|.o (Qjj z0 .k)<|.n) λ_ a w H=>?_
 have H:=H.t4_1 [5,6,7,8]
 refine wi H h (λb1 h=>?_) (λb1 h=>?_)
 ·refine sr mx [] H (λ_=>.o (Qp (.nilsl (R:=rS)))<|.o (Qp .k)<|.n) λ_ a w H=>?_
  have H:=H.t2_1 [0,1]
  refine wp_ret ?_
  obtain rfl:=sj h
  exact Qm4 (QeY undef [] hpl H rfl (.tmp z0 (.tmp z1 .nil)) rfl rfl rfl)
 refine wp_skip (k1 _ _ ?_)
 refine sr mx [v1 3 (λv0=>box (rI.cs (0:Int)) v0),v1 3 (λv0=>box (rI.cs (x_.Xa.length:Int)) v0)] H (λ_=>.o (Q7 Qd1 z3)<|.o (Q5 (u:=x_.Xa) QkF z0 rfl)<|.o (QfF ud29 z0)<|.m [] [1] rfl rfl rfl (QbH (R:=rI) (a:=(0:Int)) tok3 zok3)<|.e [] [1] [2] rfl rfl rfl rfl (Qbd (R:=rI) (a:=(x_.Xa.length:Int)) tok3 z0 z1 (leb rfl))<|.n) λ_ a w H=>?_
 replace H:St _ _ _ [_,_,_] [_] _ _:=((((H.pick [3,5,6]).Xk [1,0] rfl).Xl 0 rfl).add 0 rfl (λ_ _ _ h=>h.2)).pick [0,3,4]
 have⟨t2,h2,h⟩:=bs h
 refine sr mx [v1 1 (λv0=>own (rSn rI) 22 t2 v0),v1 2 (λv0=>box (rVal.cs nilV) v0),v2 1 2 (λv0 v1=>box (rVal.cs v0) v1)] H (λ_=>.o (Qae tok3 z0)<|.m [] [1] rfl rfl rfl (Qhf (R:=(rSn rI)) ud68 Qhx zokN22 (leb rfl) z0 z0 h2)<|.m [] [2] rfl rfl rfl (Qfm Qe1)<|.e [1] [2] [3] rfl rfl rfl rfl (Qdf (R:=(rSn rI)) (e:=22) (Ts:=(rVal.cs nilV)) Qe1 z0 z1 (leb rfl))<|.n) λm0 a w H=>?_
 have H:=H.to [1,2,3,4,5] [_,_,_,_,_] [_,_,_] rfl rfl
 refine wp_seq_k (λK0 k2=>?_)
 refine sr mx [] H (λ_=>.u [2] rfl rfl (Qbf Qe1 z1)<|.u [1] rfl rfl (QfW ud68 z0)<|.o (Qat .k)<|.n) λ_ a w H=>?_
 have H:=H.to [0,1,2,3,4,5,6,7] [_,_,_,_,_,_,_,_] [_,_,_] rfl rfl
 have⟨e0,h3,h⟩:=bs h
 have J0:∀(p0:List (List Int)) a w,p0=e0->St M w0 168 [(8,tv (m0 2)),(7,tptr (rI.cs (x_.Xa.length:Int))),(6,tptr ((rPtr QT).cs t1)),(4,tptr ((rSl rS).cs t0.1))] [glo,own (rSn rI) 22 p0 (m0 1),box (rVal.cs (m0 1)) (m0 2)] a w->K0 a w:=by
  intro p0 a w he H;subst he;refine k2 _ _ ?_;refine wp_seq_k (λ_ k3=>?_);have⟨t3,h4,h⟩:=bs h;refine sr mx [] H (λ_=>.o (Qae QiS z2)<|.o (Qjl (.cons z1<|.nil))<|.u [2,1] rfl rfl (Qey [box (rVal.cs (m0 1)) (m0 2),own (rSn rI) 22 p0 (m0 1)] Qq0 (Qg2.ok h4) (.cons (.of z1)<|.cons (.of (Fct.Xp .fnE (Qe0 QqZ (λ_ _ hq=>QmW.ok hq))))<|.cons (QbV.cloL z0 (.cons (Qu9 (.head _) (.tail _ (.head _)))<|.nil) (Qe0 QvR (λ_ _ hq=>Qqc.ok hq)))<|.nil) (λ_=>Qc2) (λ_=>QgW (x:=undef)))<|.n) λ_ a w H=>?_;have H:=H.to [2,3,4,5,6] [_,_,_,_,_] [_,_,_] rfl rfl;refine wi H h (λb2 h=>?_) (λb2 h=>?_)
  ·refine sr mx [] H (λ_=>.o (Qp (.nilsl (R:=rS)))<|.o (Qp .k)<|.n) λ_ a w H=>?_;replace H:St _ _ _ [_,_] [_] _ _:=(H.pick [0,1]).Xk [0] rfl;refine wp_ret ?_;obtain rfl:=sj h;exact Qm4 (QeY undef [] hpl H rfl (.tmp z0 (.tmp z1 .nil)) rfl rfl rfl)
  refine wp_skip (k3 _ _ ?_);refine sr mx [v1 0 (λv0=>box (rVal.cs nilV) v0)] H (λ_=>.m [] [3] rfl rfl rfl (Qfm Qaz)<|.n) λm1 a w H=>?_;replace H:St _ _ _ [_,_,_,_,_] [_,_,_,_,_] _ _:=(H.pick [0,2,3,4,5]).nilN (rI) 3;refine wp_seq_k (λ_ k4=>?_);refine sr mx [] H (λ_=>.o (Qae tok3 z2)<|.o (QL Qq1 QlR (.cons (.of z0)<|.nil))<|.n) λ_ a w H=>?_;have H:=H.to [1,2,3,4,5,6] [_,_,_,_,_,_] [_,_,_,_,_] rfl rfl;refine wp_block ?_;have⟨t2,h2,h⟩:=bs h;have H:=H.to [0,1,2,3,4,5] [_,_,_,_,_,_] [_,_,_,_,_] rfl rfl;refine Qvm (A:=(λ(s1:List Int) y0=>[ownN rI 3 s1 y0,glo,own (rSn rI) 22 p0 (m0 1),box (rVal.cs (m0 1)) (m0 2),box (rVal.cs y0) (m1 0)])) (s0:=([]:List Int)) (g0:=nilV) (jump:=.ret) (jx:=.ret) .ret H z0 Qq6 (QjH h2) (by decide) rfl (λs1 y0 m41 r h M0 M w0 a l LR43 LB43 K Q hLB43 hpl H hK hN hX=>?_) (λs1 y0 D a w M he hpm H=>?_) (λs1 y0 D a w M he hpm H=>?_)
  ·replace H:St M w0 168 [(60,tv (.int .u64 m41)),(10,tv (m1 0)),(8,tv (m0 2)),(7,tptr (rI.cs (x_.Xa.length:Int))),(6,tptr ((rPtr QT).cs t1)),(4,tptr ((rSl rS).cs t0.1))] [LR43,ownN rI 3 s1 y0,glo,own (rSn rI) 22 p0 (m0 1),box (rVal.cs (m0 1)) (m0 2),box (rVal.cs y0) (m1 0)] a w0:=H.pick [0,2,3,4,5,6];refine QaZ mixed [v1 0 (λv0=>box ((rInt .u64).cs (0:Int)) v0),v1 0 (λv0=>box ((rInt .u64).cs m41) v0)] H (λ_=>.m [] [6] rfl rfl rfl (QbH (R:=(rInt .u64)) (a:=(0:Int)) Qh8 zok86)<|.e [] [6] [7] rfl rfl rfl rfl (Qbd (R:=(rInt .u64)) (a:=m41) Qh8 z0 z1 (leb rfl))<|.nil _ _) (by kernel_rfl) (λ_ a w H=>?_);replace H:St _ _ _ [_,_,_,_,_,_] [_,_,_,_,_,_] _ _:=((((H.pick [0,2,3,4,5,6]).Xk [6,0,1,2,3,4,5] rfl).Xl 0 rfl).add 0 rfl (λ_ _ _ h=>h.2)).pick [0,3,4,5,6,7];refine hK _ _ _ _ H (λw H=>?_);refine QeA ?_;refine Qaw (λ_ k5=>?_);refine QaZ mixed [v1 0 (λv0=>box (rVal.cs nilV) v0)] H (λ_=>.m [] [6] rfl rfl rfl (Qfm Qaz)<|.nil _ _) (by kernel_rfl) (λm2 a w H=>?_);replace H:St _ _ _ [_,_,_,_,_,_,_] [_,_,_,_,_,_,_,_] _ _:=(H.pick [0,1,2,3,4,5,6]).nil (rI) 3;refine k5 _ _ ?_;refine Qaw (λK1 k6=>?_);refine Qaw (λ_ k7=>?_);refine QaZ mixed [] H (λ_=>.o (Qae tok3 z4)<|.o (Qat .k)<|.nil _ _) (by kernel_rfl) (λ_ a w H=>?_);have H:=H.to [0,1,2,3,4,5,6,7,8] [_,_,_,_,_,_,_,_,_] [_,_,_,_,_,_,_,_] rfl rfl;refine k7 _ _ ?_;have⟨e1,h5,h⟩:=bs h;have J1:∀(p1:List Int) (y1:Value) a w,p1=e1->St M w0 168 [(12,tv (m2 0)),(11,tptr ((rInt .u64).cs m41)),(10,tv (m1 0)),(8,tv (m0 2)),(7,tptr (rI.cs (x_.Xa.length:Int))),(6,tptr ((rPtr QT).cs t1)),(4,tptr ((rSl rS).cs t0.1))] [own rI 3 p1 y1,LB43,ownN rI 3 s1 y0,glo,own (rSn rI) 22 p0 (m0 1),box (rVal.cs (m0 1)) (m0 2),box (rVal.cs y0) (m1 0),box (rVal.cs y1) (m2 0)] a w->K1 a w:=by
    intro p1 y1 a w he H;subst he;refine k6 _ _ ?_;refine Qaw (λ_ k8=>?_);refine QaZ mixed [] H (λ_=>.o (Qae QiS z5)<|.o (Qi3 z0)<|.o (Q7 Qkf z0)<|.o (Q5 (u:=t1.Xo) Qmq z0 rfl)<|.o (QfF ud75 z0)<|.o (QL Qq1 QlR (.cons (.of z0)<|.nil))<|.nil _ _) (by kernel_rfl) (λ_ a w H=>?_);have H:=H.to [5,6,7,8,9,10,11,12] [_,_,_,_,_,_,_,_] [_,_,_,_,_,_,_,_] rfl rfl;refine k8 _ _ ?_;have⟨p2,h6,h⟩:=bs h;have J2:∀(y2:Value) a w,St M w0 168 [(10,tv (m1 0)),(8,tv (m0 2)),(7,tptr (rI.cs (x_.Xa.length:Int))),(6,tptr ((rPtr QT).cs t1)),(4,tptr ((rSl rS).cs t0.1))] [LB43,ownN rI 3 p2 y2,glo,own (rSn rI) 22 p0 (m0 1),box (rVal.cs (m0 1)) (m0 2),box (rVal.cs y2) (m1 0)] a w->Q .normal a w:=by
     intro y2 a w H;obtain rfl:=sj h;exact hN _ y2 _ [0,1,2,3,4,5] _ _ _ rfl H rfl (λ_=>rfl)
    replace h:=h6;clear h6;refine QeA ?_;have⟨t4,h7,h⟩:=bs h;have H:=H.to [0,1,2,3,4,5,6,7] [_,_,_,_,_,_,_,_] [_,_,_,_,_,_,_,_] rfl rfl;refine QtV (A:=(λ(s2:List Int) y3=>[own rI 3 p1 y1,LB43,ownN rI 3 s2 y3,glo,own (rSn rI) 22 p0 (m0 1),box (rVal.cs (m0 1)) (m0 2),box (rVal.cs y3) (m1 0),box (rVal.cs y1) (m2 0)])) (s0:=s1) (g0:=y0) (jump:=(.exit 6)) (jx:=(.exit 6)) (.exit 6) hLB43 (.tail _ (.head _)) H z0 Qq6 (QjH h7) (by decide) rfl (λs2 y3 m1394 r h M0 M w0 a l LR1396 LB1396 K Q hLB1396 hpl H hK hN hX=>?_) (λs2 y3 w he H=>?_) (λs2 y3 w he H=>?_)
    ·replace H:St M w0 168 [(92,tv (.int .u64 m1394)),(12,tv (m2 0)),(11,tptr ((rInt .u64).cs m41)),(10,tv (m1 0)),(8,tv (m0 2)),(7,tptr (rI.cs (x_.Xa.length:Int))),(6,tptr ((rPtr QT).cs t1)),(4,tptr ((rSl rS).cs t0.1))] [LR1396,own rI 3 p1 y1,LB43,ownN rI 3 s2 y3,glo,own (rSn rI) 22 p0 (m0 1),box (rVal.cs (m0 1)) (m0 2),box (rVal.cs y3) (m1 0),box (rVal.cs y1) (m2 0)] a w0:=H.pick [0,2,3,4,5,6,7,8];refine QaZ mixed [v1 0 (λv0=>box ((rInt .u64).cs (0:Int)) v0),v1 0 (λv0=>box ((rInt .u64).cs m1394) v0)] H (λ_=>.m [] [9] rfl rfl rfl (QbH (R:=(rInt .u64)) (a:=(0:Int)) Qh8 zok86)<|.e [] [9] [10] rfl rfl rfl rfl (Qbd (R:=(rInt .u64)) (a:=m1394) Qh8 z0 z1 (leb rfl))<|.nil _ _) (by kernel_rfl) (λ_ a w H=>?_);replace H:St _ _ _ [_,_,_,_,_,_,_,_] [_,_,_,_,_,_,_,_,_] _ _:=((((H.pick [0,2,3,4,5,6,7,8]).Xk [9,0,1,2,3,4,5,6,7,8] rfl).Xl 0 rfl).add 0 rfl (λ_ _ _ h=>h.2)).pick [0,3,4,5,6,7,8,9];refine hK _ _ _ _ H (λw H=>?_);refine QeA ?_;refine Qaw (λ_ k9=>?_);have⟨t5,h8,h⟩:=bs h;refine QaZ mixed [] H (λ_=>.u [8] rfl rfl (Qbf Qaz z1)<|.u [1] rfl rfl (QfW ud22 z0)<|.o (Qae Qh8 z2)<|.o (QL Qq2 (QiL.ok h8) (.cons (.of z0)<|.nil))<|.o (QaI z2 z0)<|.o (Qp z0)<|.nil _ _) (by kernel_rfl) (λ_ a w H=>?_);have H:=H.to [0,5,6,7,8,9,10,11,12,13] [_,_,_,_,_,_,_,_,_,_] [_,_,_,_,_,_,_,_,_] rfl rfl;refine k9 _ _ ?_;refine Qaw (λ_ k10=>?_);refine Qaw (λ_ k11=>?_);refine QaZ mixed [] H (λ_=>.u [7] rfl rfl (Qbf Qaz z5)<|.u [3] rfl rfl (Qvn ud22 z0)<|.q 0 rfl<|.g rfl rfl bq0 (λ_=>Qat z4)<|.gu [7] rfl rfl rfl bq1 (λ_=>Qbf Qaz z9)<|.gu [3] rfl rfl rfl bq2 (λhc=>(QfW ud22 (.cond z0 hc)).useN)<|.g rfl rfl bq3 (λhc=>Qnw (.cond z2 hc) (.cond z0 hc))<|.o (QdO z4 (λhp=>(.cond z0 (beqT hp))))<|.q 0 rfl<|.g rfl rfl bq0 (λ_=>Qat z10)<|.g rfl rfl bq1 (λ_=>Qae QiR z19)<|.g rfl rfl bq2 (λhc=>QfF ud25 (.cond z0 hc))<|.g rfl rfl bq3 (λhc=>Qjj (.cond z2 hc) (.cond z0 hc))<|.o (Qny z4 (λhp=>(.cond z0 (beqF hp))))<|.nil _ _) (by kernel_rfl) (λ_ a w H=>?_);have H:=H.t11_9 [0,13,14,16,17,18,19,20,21,22,23];refine k11 _ _ ?_;refine Qgf 1 H rfl (λb3=>?_) (λb3=>?_)
     ·replace h:=Qdc b3 h;refine QhS ?_;obtain rfl:=sj h;exact hX _ y3 _ [0,1,2,3,4,5,6,7,8] _ _ _ rfl H rfl (λ_=>rfl)
     replace h:=Qdd b3 h;refine Qgg ?_;refine k10 _ _ ?_;refine Qaw (λ_ k12=>?_);refine Qaw (λ_ k13=>?_);have⟨t6,h9,h⟩:=bs h;refine QaZ mixed [] H (λ_=>.o (Qae QiS z9)<|.o (Qjl (.cons z4<|.nil))<|.o (Qjl (.cons z7<|.nil))<|.o (QL Qq0 (Qg2.ok h9) (.cons (.of z2)<|.cons (.of (Fct.Xp z1 (Qe0 QvS (λ_ _ hq=>Qqe.ok hq))))<|.cons (.of (Fct.Xp z0 (Qe0 QvT (λ_ _ hq=>Qqf.ok hq))))<|.nil))<|.nil _ _) (by kernel_rfl) (λ_ a w H=>?_);have H:=H.t11_9 [3,4,6,7,8,9,10,11,12,13,14];refine k13 _ _ ?_;refine Qgf 0 H rfl (λb4=>?_) (λb4=>?_)
     ·replace h:=Qdc b4 h;refine QhS ?_;obtain rfl:=sj h;exact hN _ y3 _ [0,1,2,3,4,5,6,7,8] _ _ _ rfl H rfl (λ_=>rfl)
     replace h:=Qdd b4 h;refine Qgg ?_;refine k12 _ _ ?_;refine Qaw (λ_ k14=>?_);refine QaZ mixed [v0 (box (rVal.cs nilV) (m1 0))] H (λ_=>.e [] [7] [9] rfl rfl rfl rfl (Qbd (R:=rVal) (a:=nilV) Qaz z6 .nilV (leb rfl))<|.nil _ _) (by kernel_rfl) (λ_ a w H=>?_);replace H:St _ _ _ [_,_,_,_,_,_,_,_,_,_] [_,_,_,_,_,_,_,_,_,_] _ _:=(H.pick [1,2,3,4,5,6,7,8,9,10]).nilN (rI) 3;refine k14 _ _ ?_;refine Qaw (λK2 k15=>?_);refine Qaw (λ_ k16=>?_);refine QaZ mixed [] H (λ_=>.o (Qae QiS z8)<|.o (Qi3 z0)<|.o (Q7 Qkf z0)<|.o (Q5 (u:=t1.Xo) Qmq z0 rfl)<|.o (QfF ud75 z0)<|.o (Qat .k)<|.nil _ _) (by kernel_rfl) (λ_ a w H=>?_);have H:=H.to [4,5,6,7,8,9,10,11,12,13,14,15] [_,_,_,_,_,_,_,_,_,_,_,_] [_,_,_,_,_,_,_,_,_,_] rfl rfl;refine k16 _ _ ?_;have⟨e2,h10,h⟩:=bs h;have J3:∀(p3:List Int) (y4:Value) a w,p3=e2->St M w0 168 [(12,tv (m2 0)),(11,tptr ((rInt .u64).cs m41)),(10,tv (m1 0)),(8,tv (m0 2)),(7,tptr (rI.cs (x_.Xa.length:Int))),(6,tptr ((rPtr QT).cs t1)),(4,tptr ((rSl rS).cs t0.1))] [ownN rI 3 p3 y4,LB1396,own rI 3 p1 y1,LB43,glo,own (rSn rI) 22 p0 (m0 1),box (rVal.cs (m0 1)) (m0 2),box (rVal.cs y1) (m2 0),box (rVal.cs y4) (m1 0)] a w->K2 a w:=by
      intro p3 y4 a w he H;subst he;refine k15 _ _ ?_;refine Qaw (λK3 k17=>?_);refine Qaw (λ_ k18=>?_);refine QaZ mixed [] H (λ_=>.u [7] rfl rfl (Qbf Qaz z0)<|.u [2] rfl rfl (QfW ud22 z0)<|.o (Qat .k)<|.nil _ _) (by kernel_rfl) (λ_ a w H=>?_);have H:=H.to [0,1,2,3,4,5,6,7,8,9] [_,_,_,_,_,_,_,_,_,_] [_,_,_,_,_,_,_,_,_] rfl rfl;refine k18 _ _ ?_;have⟨e3,h11,h⟩:=bs h;have J4:∀(p4:List Int) (y5:Value) a w,p4=e3->St M w0 168 [(12,tv (m2 0)),(11,tptr ((rInt .u64).cs m41)),(10,tv (m1 0)),(8,tv (m0 2)),(7,tptr (rI.cs (x_.Xa.length:Int))),(6,tptr ((rPtr QT).cs t1)),(4,tptr ((rSl rS).cs t0.1))] [ownN rI 3 p4 y5,LB1396,own rI 3 p1 y1,LB43,glo,own (rSn rI) 22 p0 (m0 1),box (rVal.cs (m0 1)) (m0 2),box (rVal.cs y1) (m2 0),box (rVal.cs y5) (m1 0)] a w->K3 a w:=by
       intro p4 y5 a w he H;subst he;refine k17 _ _ ?_;refine QhS ?_;obtain rfl:=sj h;exact hX _ y5 _ [0,1,2,3,4,5,6,7,8] _ _ _ rfl (H.Xk [1,2,3,0,4,5,6,8,7] rfl) rfl (λ_=>rfl)
      refine QeA ?_;refine QlD _ (λ(s3:Int×List Int) a w=>∃y6:Value,St M w0 168 [(134,tv y1),(135,ti (p1.length:Int)),(136,ti s3.1),(12,tv (m2 0)),(11,tptr ((rInt .u64).cs m41)),(10,tv (m1 0)),(8,tv (m0 2)),(7,tptr (rI.cs (x_.Xa.length:Int))),(6,tptr ((rPtr QT).cs t1)),(4,tptr ((rSl rS).cs t0.1))] [ownN rI 3 s3.2 y6,LB1396,own rI 3 p1 y1,LB43,glo,own (rSn rI) 22 p0 (m0 1),box (rVal.cs (m0 1)) (m0 2),box (rVal.cs y1) (m2 0),box (rVal.cs y6) (m1 0)] a w) _ _ h11 ⟨y4,H.pick [0,1,2,3,4,5,6,7,8,9]⟩ ?_;clear h;intro s3 o a w K4 hI h ho k19;obtain⟨y6,H⟩:=hI;refine Qaw (λ_ k20=>?_);refine QaZ mixed [] H (λ_=>.o (Qc0 z2 z1)<|.nil _ _) (by kernel_rfl) (λ_ a w H=>?_);have H:=H.t11_9 [0,1,2,3,4,5,6,7,8,9,10];refine k20 _ _ ?_;refine Qaw (λ_ k21=>?_);refine Qgf 0 H rfl (λb5=>?_) (λb5=>?_)
      ·replace h:=Qdc b5 h;refine Qgg ?_;refine k21 _ _ ?_;refine Qaw (λ_ k22=>?_);refine QeA ?_;refine Qaw (λ_ k23=>?_);have⟨t7,h12,h⟩:=bs h;refine QaZ mixed [] H (λ_=>.u [2] rfl rfl (Qbe ud22 tok3 z1 z3 h12)<|.u [2] rfl rfl (QeN tok3 z0 h12)<|.o (Qp z0)<|.nil _ _) (by kernel_rfl) (λ_ a w H=>?_);have H:=H.t11_9 [2,4,5,6,7,8,9,10,11,12,13];refine k23 _ _ ?_;have⟨u0,h13,h⟩:=bs h;refine QaZ mixed [v1 9 (λv0=>ownN rI 3 (s3.2++[(i64.wrap ((t1.Xo.length:Int)+t7))]) v0),v1 9 (λv0=>box (rVal.cs v0) (m1 0))] H (λ_=>.u [8] rfl rfl (Qbf Qaz z6)<|.o (Qae QiS z10)<|.o (Qi3 z0)<|.o (Q7 Qkf z0)<|.o (Q5 (u:=t1.Xo) Qmq z0 rfl)<|.o (QfF ud75 z0)<|.q 6 rfl<|.o (QaI z1 z0)<|.o (Qam (R:=rI) (us:=[(i64.wrap ((t1.Xo.length:Int)+t7))]) ud22 tok3 (.cons z0<|.nil _) rfl (leb rfl))<|.e [] [0] [9] rfl rfl rfl rfl ((QaD (R:=rI) ud22 tok3 (leb rfl) z8 z0 h13).eatN (by simp))<|.e [9] [8] [10] rfl rfl rfl rfl ((Qdf (R:=rI) (e:=3) (Ts:=(rVal.cs y6)) Qaz z16 z0 (leb rfl)).useN)<|.nil _ _) (by kernel_rfl) (λm3 a w H=>?_);have H:=H.t11_9 [9,11,12,13,14,15,16,17,18,19,20];refine k22 _ _ ?_;refine QaZ mixed [] H (λ_=>.o (QaI z3 .k)<|.q 0 rfl<|.nil _ _) (by kernel_rfl) (λ_ a w H=>?_);have H:=H.t11_9 [1,2,3,4,5,6,7,8,9,10,11];exact k19 _ _ _ (sj h).symm ⟨(m3 9),(H.pick [2,3,0,4,5,6,7,8,9,10]).Xk [7,0,1,2,3,4,5,6,8] rfl⟩
      replace h:=Qdd b5 h;refine QhS ?_;exact J4 _ y6 _ _ (ho _ (sj h).symm) (H.pick [4,5,6,7,8,9,10])
     refine QeA ?_;refine QlD _ (λ(s4:Int×List Int) a w=>∃y7:Value,St M w0 168 [(120,ti (t1.Xo.length:Int)),(121,ti s4.1),(14,tptr ((rInt .u64).cs m1394)),(12,tv (m2 0)),(11,tptr ((rInt .u64).cs m41)),(10,tv (m1 0)),(8,tv (m0 2)),(7,tptr (rI.cs (x_.Xa.length:Int))),(6,tptr ((rPtr QT).cs t1)),(4,tptr ((rSl rS).cs t0.1))] [ownN rI 3 s4.2 y7,LB1396,own rI 3 p1 y1,LB43,glo,own (rSn rI) 22 p0 (m0 1),box (rVal.cs (m0 1)) (m0 2),box (rVal.cs y1) (m2 0),box (rVal.cs y7) (m1 0)] a w) _ _ h10 ⟨nilV,(H.pick [0,1,4,5,6,7,8,9,10,11]).Xk [0,1,2,3,5,6,7,8,9] rfl⟩ ?_;clear h;intro s4 o a w K5 hI h ho k24;obtain⟨y7,H⟩:=hI;refine Qaw (λ_ k25=>?_);refine QaZ mixed [] H (λ_=>.o (Qc0 z1 z0)<|.nil _ _) (by kernel_rfl) (λ_ a w H=>?_);have H:=H.t11_9 [0,1,2,3,4,5,6,7,8,9,10];refine k25 _ _ ?_;refine Qaw (λ_ k26=>?_);refine Qgf 0 H rfl (λb6=>?_) (λb6=>?_)
     ·replace h:=Qdc b6 h;refine Qgg ?_;refine k26 _ _ ?_;refine Qaw (λK6 k27=>?_);refine QeA ?_;refine Qaw (λ_ k28=>?_);refine QaZ mixed [] H (λ_=>.q 2 rfl<|.o (Qp z0)<|.nil _ _) (by kernel_rfl) (λ_ a w H=>?_);have H:=H.t11_9 [1,3,4,5,6,7,8,9,10,11,12];refine k28 _ _ ?_;refine Qaw (λ_ k29=>?_);have⟨u1,h14,h⟩:=bs h;refine QaZ mixed [] H (λ_=>.o (Qae Qh8 z3)<|.q 1 rfl<|.o (Qcb z1 z0 (QnH h14))<|.o (QcT z0 .k)<|.o (QcO z0 .k)<|.nil _ _) (by kernel_rfl) (λ_ a w H=>?_);have H:=H.to [4,5,6,7,8,9,10,11,12,13,14,15] [_,_,_,_,_,_,_,_,_,_,_,_] [_,_,_,_,_,_,_,_,_] rfl rfl;refine k29 _ _ ?_;have⟨p5,h15,h⟩:=bs h;have J5:∀(y8:Value) a w,St M w0 168 [(120,ti (t1.Xo.length:Int)),(121,ti s4.1),(14,tptr ((rInt .u64).cs m1394)),(12,tv (m2 0)),(11,tptr ((rInt .u64).cs m41)),(10,tv (m1 0)),(8,tv (m0 2)),(7,tptr (rI.cs (x_.Xa.length:Int))),(6,tptr ((rPtr QT).cs t1)),(4,tptr ((rSl rS).cs t0.1))] [LB1396,own rI 3 p1 y1,LB43,glo,own (rSn rI) 22 p0 (m0 1),box (rVal.cs (m0 1)) (m0 2),box (rVal.cs y1) (m2 0),ownN rI 3 p5 y8,box (rVal.cs y8) (m1 0)] a w->K6 a w:=by
       intro y8 a w H;refine k27 _ _ ?_;refine QaZ mixed [] H (λ_=>.o (QaI z1 .k)<|.q 0 rfl<|.nil _ _) (by kernel_rfl) (λ_ a w H=>?_);have H:=H.to [1,2,3,4,5,6,7,8,9,10] [_,_,_,_,_,_,_,_,_,_] [_,_,_,_,_,_,_,_,_] rfl rfl;exact k24 _ _ _ (sj h).symm ⟨y8,(H.pick [1,0,2,3,4,5,6,7,8,9]).Xk [7,0,1,2,3,4,5,6,8] rfl⟩
      replace h:=h15;clear h15;refine Qgf 0 H rfl (λb7=>?_) (λb7=>?_)
      ·replace h:=Qdc b7 h;have⟨u2,h16,h⟩:=bs h;refine QaZ mixed [v1 3 (λv0=>ownN rI 3 (s4.2++[s4.1]) v0),v1 3 (λv0=>box (rVal.cs v0) (m1 0))] H (λ_=>.u [8] rfl rfl (Qbf Qaz z7)<|.q 2 rfl<|.o (Qam (R:=rI) (us:=[s4.1]) ud22 tok3 (.cons z0<|.nil _) rfl (leb rfl))<|.e [] [0] [9] rfl rfl rfl rfl ((QaD (R:=rI) ud22 tok3 (leb rfl) z2 z0 h16).eatN (by simp))<|.e [9] [8] [10] rfl rfl rfl rfl ((Qdf (R:=rI) (e:=3) (Ts:=(rVal.cs y7)) Qaz z11 z0 (leb rfl)).useN)<|.nil _ _) (by kernel_rfl) (λm4 a w H=>?_);have H:=H.t11_9 [3,6,7,8,9,10,11,12,13,14,15];obtain rfl:=sj h;exact J5 (m4 3) _ _ (H.pick [1,2,3,4,5,6,7,8,9,10])
      replace h:=Qdd b7 h;refine Qgg ?_;obtain rfl:=sj h;exact J5 y7 _ _ ((H.pick [2,3,4,5,6,7,8,9,10,11]).Xk [1,2,3,4,5,6,7,0,8] rfl)
     replace h:=Qdd b6 h;refine QhS ?_;exact J3 _ y7 _ _ (ho _ (sj h).symm) (H.pick [4,5,6,7,8,9,10])
    ·subst he;simp only at h;have H:=H.to [1,2,3,4,5,6,7] [_,_,_,_,_,_,_] [_,_,_,_,_,_,_,_] rfl rfl;obtain rfl:=sj h;exact J2 y3 _ _ ((H.pick [2,3,4,5,6]).Xk [1,2,3,4,5,6] rfl)
    subst he;simp only at h;have H:=H.to [1,2,3,4,5,6,7] [_,_,_,_,_,_,_] [_,_,_,_,_,_,_,_] rfl rfl;obtain rfl:=sj h;exact J2 y3 _ _ ((H.pick [2,3,4,5,6]).Xk [1,2,3,4,5,6] rfl)
   refine QeA ?_;refine QlD _ (λ(s5:Int×List Int) a w=>∃y9:Value,St M w0 168 [(61,ti (x_.Xa.length:Int)),(62,ti s5.1),(12,tv (m2 0)),(11,tptr ((rInt .u64).cs m41)),(10,tv (m1 0)),(8,tv (m0 2)),(7,tptr (rI.cs (x_.Xa.length:Int))),(6,tptr ((rPtr QT).cs t1)),(4,tptr ((rSl rS).cs t0.1))] [own rI 3 s5.2 y9,LB43,ownN rI 3 s1 y0,glo,own (rSn rI) 22 p0 (m0 1),box (rVal.cs (m0 1)) (m0 2),box (rVal.cs y0) (m1 0),box (rVal.cs y9) (m2 0)] a w) _ _ h5 ⟨nilV,H.pick [0,1,2,3,4,5,6,7,8]⟩ ?_;clear h;intro s5 o a w K7 hI h ho k30;obtain⟨y9,H⟩:=hI;refine Qaw (λ_ k31=>?_);refine QaZ mixed [] H (λ_=>.o (Qc0 z1 z0)<|.nil _ _) (by kernel_rfl) (λ_ a w H=>?_);have H:=H.to [0,1,2,3,4,5,6,7,8,9] [_,_,_,_,_,_,_,_,_,_] [_,_,_,_,_,_,_,_] rfl rfl;refine k31 _ _ ?_;refine Qaw (λ_ k32=>?_);refine Qgf 0 H rfl (λb8=>?_) (λb8=>?_)
   ·replace h:=Qdc b8 h;refine Qgg ?_;refine k32 _ _ ?_;refine Qaw (λK8 k33=>?_);refine QeA ?_;refine Qaw (λ_ k34=>?_);refine QaZ mixed [] H (λ_=>.q 2 rfl<|.o (Qp z0)<|.nil _ _) (by kernel_rfl) (λ_ a w H=>?_);have H:=H.to [1,3,4,5,6,7,8,9,10,11] [_,_,_,_,_,_,_,_,_,_] [_,_,_,_,_,_,_,_] rfl rfl;refine k34 _ _ ?_;refine Qaw (λ_ k35=>?_);have⟨u3,h17,h⟩:=bs h;refine QaZ mixed [] H (λ_=>.o (Qae Qh8 z4)<|.q 1 rfl<|.o (Qcb z1 z0 (QnH h17))<|.o (QcT z0 .k)<|.o (QcO z0 .k)<|.nil _ _) (by kernel_rfl) (λ_ a w H=>?_);have H:=H.to [4,5,6,7,8,9,10,11,12,13,14] [_,_,_,_,_,_,_,_,_,_,_] [_,_,_,_,_,_,_,_] rfl rfl;refine k35 _ _ ?_;have⟨p6,h18,h⟩:=bs h;have J6:∀(y10:Value) a w,St M w0 168 [(61,ti (x_.Xa.length:Int)),(62,ti s5.1),(12,tv (m2 0)),(11,tptr ((rInt .u64).cs m41)),(10,tv (m1 0)),(8,tv (m0 2)),(7,tptr (rI.cs (x_.Xa.length:Int))),(6,tptr ((rPtr QT).cs t1)),(4,tptr ((rSl rS).cs t0.1))] [LB43,ownN rI 3 s1 y0,glo,own (rSn rI) 22 p0 (m0 1),box (rVal.cs (m0 1)) (m0 2),box (rVal.cs y0) (m1 0),own rI 3 p6 y10,box (rVal.cs y10) (m2 0)] a w->K8 a w:=by
     intro y10 a w H;refine k33 _ _ ?_;refine QaZ mixed [] H (λ_=>.o (QaI z1 .k)<|.q 0 rfl<|.nil _ _) (by kernel_rfl) (λ_ a w H=>?_);have H:=H.to [1,2,3,4,5,6,7,8,9] [_,_,_,_,_,_,_,_,_] [_,_,_,_,_,_,_,_] rfl rfl;exact k30 _ _ _ (sj h).symm ⟨y10,(H.pick [1,0,2,3,4,5,6,7,8]).Xk [6,0,1,2,3,4,5,7] rfl⟩
    replace h:=h18;clear h18;refine Qgf 0 H rfl (λb9=>?_) (λb9=>?_)
    ·replace h:=Qdc b9 h;refine Qaw (λ_ k36=>?_);have⟨t8,h19,u4,h20,h⟩:=bs2 h;refine QaZ mixed [v1 5 (λv0=>own rI 3 (s5.2++t8) v0),v1 5 (λv0=>box (rVal.cs v0) (m2 0))] H (λ_=>.u [7] rfl rfl (Qbf Qaz z4)<|.u [5] rfl rfl (Qbf Qe1 z8)<|.q 3 rfl<|.u [4] rfl rfl (Qbe ud68 Qhx z1 z0 h19)<|.u [4] rfl rfl (QeN Qhx z0 h19)<|.e [] [0] [8] rfl rfl rfl rfl (QaD (R:=rI) ud22 tok3 (leb rfl) z4 (.left z0) h20)<|.e [8] [7] [9] rfl rfl rfl rfl (Qdf (R:=rI) (e:=3) (Ts:=(rVal.cs y9)) Qaz z10 z0 (leb rfl))<|.nil _ _) (by kernel_rfl) (λm5 a w H=>?_);have H:=H.to [1,5,7,8,9,10,11,12,13,14,15,16] [_,_,_,_,_,_,_,_,_,_,_,_] [_,_,_,_,_,_,_,_] rfl rfl;refine k36 _ _ ?_;refine Qaw (λ_ k37=>?_);have⟨t9,h21,h⟩:=bs h;refine QaZ mixed [] H (λ_=>.u [4] rfl rfl (Qbf Qe1 z8)<|.q 3 rfl<|.u [3] rfl rfl (Qbe ud68 Qhx z1 z0 h21)<|.u [3] rfl rfl (QeN Qhx z0 h21)<|.o (Qpo ud22 z0)<|.nil _ _) (by kernel_rfl) (λ_ a w H=>?_);have H:=H.to [0,4,5,6,8,9,10,11,12,13,14,15,16] [_,_,_,_,_,_,_,_,_,_,_,_,_] [_,_,_,_,_,_,_,_] rfl rfl;refine k37 _ _ ?_;have⟨p7,h22,h⟩:=bs h;have J7:∀(y11:Value) a w,St M w0 168 [(61,ti (x_.Xa.length:Int)),(62,ti s5.1),(12,tv (m2 0)),(11,tptr ((rInt .u64).cs m41)),(10,tv (m1 0)),(8,tv (m0 2)),(7,tptr (rI.cs (x_.Xa.length:Int))),(6,tptr ((rPtr QT).cs t1)),(4,tptr ((rSl rS).cs t0.1))] [LB43,ownN rI 3 s1 y0,glo,own (rSn rI) 22 p0 (m0 1),box (rVal.cs (m0 1)) (m0 2),box (rVal.cs y0) (m1 0),own rI 3 p7 y11,box (rVal.cs y11) (m2 0)] a w->K8 a w:=by
      intro y11 a w H;obtain rfl:=sj h;exact J6 y11 _ _ (H.pick [0,1,2,3,4,5,6,7,8])
     replace h:=h22;clear h22;refine Qgf 1 H rfl (λb10=>?_) (λb10=>?_)
     ·replace h:=Qdc b10 h;have⟨t10,h23,h⟩:=bs h;refine QaZ mixed [v1 3 (λv0=>own rI 3 t10 v0),v1 3 (λv0=>box (rVal.cs v0) (m2 0))] H (λ_=>.o (Qae QiR z12)<|.o (QfF ud25 z0)<|.o (QaI z0 .k)<|.m [] [8] rfl rfl rfl (Qhf (R:=rI) ud22 tok3 zok3 (leb rfl) z0 z0 h23)<|.e [8] [7] [9] rfl rfl rfl rfl (Qdf (R:=rI) (e:=3) (Ts:=(rVal.cs (m5 5))) Qaz z10 z0 (leb rfl))<|.nil _ _) (by kernel_rfl) (λm6 a w H=>?_);have H:=H.to [3,4,6,7,8,9,10,11,12,13,14,15,16] [_,_,_,_,_,_,_,_,_,_,_,_,_] [_,_,_,_,_,_,_,_,_] rfl rfl;obtain rfl:=sj h;exact J7 (m6 3) _ _ ((H.pick [4,5,6,7,8,9,10,11,12]).Xk [0,1,2,3,4,5,7,8] rfl)
     replace h:=Qdd b10 h;refine Qgg ?_;obtain rfl:=sj h;exact J7 (m5 5) _ _ (H.pick [4,5,6,7,8,9,10,11,12])
    replace h:=Qdd b9 h;refine Qgg ?_;obtain rfl:=sj h;exact J6 y9 _ _ ((H.pick [2,3,4,5,6,7,8,9,10]).Xk [1,2,3,4,5,6,0,7] rfl)
   replace h:=Qdd b8 h;refine QhS ?_;exact J1 _ y9 _ _ (ho _ (sj h).symm) (H.pick [3,4,5,6,7,8,9])
  ·subst he;simp only at h;replace hpl:=hpm _ _ hpl;have H:=H.to [1,2,3,4,5] [_,_,_,_,_] [_,_,_,_,_,_] rfl rfl;refine k4 _ _ ?_;refine wp_seq_k (λ_ k38=>?_);replace H:St _ _ _ [_,_,_,_,_] [_,_,_,_,_,_] _ _:=(H.Xk [1,0,2,3,4,5] rfl).unN;have⟨t11,h24,h⟩:=bs h;refine wr mx [v0 (own rI 3 t11 y0)] H (λ_=>.u [5] rfl rfl (Qbf Qaz z0)<|.e [] [0] [6] rfl rfl rfl rfl (QL QvU (QlG h24) (.cons (.of z0)<|.nil))<|.n) λ_ a w H=>?_;replace H:St _ _ _ [_,_,_] [_,_,_,_] _ _:=(H.pick [0,2,6]).Xk [0,1,4,5] rfl;refine k38 _ _ ?_;refine sr mx [] H (λ_=>.o (Qp .k)<|.n) λ_ a w H=>?_;replace H:St _ _ _ [_,_,_,_] [_,_,_,_,_] _ _:=(H.pick [0,1,2,3]).nil (rS) 9;refine wp_seq_k (λK9 k39=>?_);refine sr mx [] H (λ_=>.u [3] rfl rfl (Qbf Qaz z2)<|.u [4] rfl rfl (QfW ud22 z0)<|.o (Qat .k)<|.n) λ_ a w H=>?_;replace H:St _ _ _ [_,_,_,_,_,_] [_,_,_,_] _ _:=(H.pick [0,1,2,3,4,6]).Xk [0,1,2,4] rfl;have⟨e4,h25,h⟩:=bs h;have J8:∀(p8:List Str) (y12:Value) a w,p8=e4->St M w0 168 [(19,tv y12)] [own rS 9 p8 y12,objA D defO,glo] a w->K9 a w:=by
    intro p8 y12 a w he H;subst he;refine k39 _ _ ?_;refine sr mx [] H (λ_=>.q 0 rfl<|.o (Qp z0)<|.o (Qp .k)<|.n) λ_ a w H=>?_;have H:=H.to [0,1,2,3] [_,_,_,_] [_,_,_] rfl rfl;refine wp_ret ?_;replace H:St _ _ _ [_,_] [_,_] _ _:=(H.Xn 1 rfl).pick [0,3];obtain rfl:=sj h;exact QtW undef [] hpl H rfl (.tmp z0 (.tmp z1 .nil)) rfl rfl rfl
   refine wp_block ?_;refine Qhg _ (λ(s6:Int×List Str) a w=>∃y13:Value,St M w0 168 [(153,tv y0),(154,ti (t11.length:Int)),(155,ti s6.1),(19,tv y13),(4,tptr ((rSl rS).cs t0.1))] [own rS 9 s6.2 y13,objA D defO,glo,own rI 3 t11 y0] a w) _ _ h25 ⟨(.slice none 0 0),H.pick [0,1,2,3,5]⟩ ?_;clear h;intro s6 o a w K10 hI h ho k40;obtain⟨y13,H⟩:=hI;refine sr mx [] H (λ_=>.o (Qc0 z2 z1)<|.n) λ_ a w H=>?_;have H:=H.to [0,1,2,3,4,5] [_,_,_,_,_,_] [_,_,_,_] rfl rfl;refine wp_seq_k (λ_ k41=>?_);refine wi H h (λb11 h=>?_) (λb11 h=>?_)
   ·refine wp_skip (k41 _ _ ?_);refine wp_seq_k (λ_ k42=>?_);refine wp_block ?_;have⟨t12,h26,h⟩:=bs h;refine sr mx [] H (λ_=>.u [3] rfl rfl (Qbe ud22 tok3 z1 z3 h26)<|.u [3] rfl rfl (QeN tok3 z0 h26)<|.o (Qp z0)<|.n) λ_ a w H=>?_;have H:=H.to [2,4,5,6,7,8] [_,_,_,_,_,_] [_,_,_,_] rfl rfl;have⟨t13,h27,u5,h28,h⟩:=bs2 h;refine wr mx [v1 6 (λv0=>own rS 9 (s6.2++[t13]) v0)] H (λ_=>.q 4 rfl<|.o (Qae QiR z6)<|.q 2 rfl<|.o (Qd7 ud25 tok9 z1 z0 h27)<|.o (Qae tok9 z0)<|.o (Qam (R:=rS) (us:=[t13]) ud25 tok9 (.cons z0<|.nil _) rfl (leb rfl))<|.e [] [0] [4] rfl rfl rfl rfl (QaD (R:=rS) ud25 tok9 (leb rfl) z5 z0 h28)<|.ud (f:=λv=>tv v) 6 rfl [] rfl rfl (Qp z0)<|.n) λm7 a w H=>?_;have H:=H.to [6,7,9,10,11,12] [_,_,_,_,_,_] [_,_,_,_] rfl rfl;refine k42 _ _ ?_;refine wr mx [] H (λ_=>.o (QaI z4 .k)<|.q 0 rfl<|.n) λ_ a w H=>?_;have H:=H.to [1,2,3,4,5,6] [_,_,_,_,_,_] [_,_,_,_] rfl rfl;exact k40 _ _ _ (sj h).symm ⟨(m7 6),(H.pick [3,4,0,2,5]).Xk [3,0,1,2] rfl⟩
   refine wp_exit ?_;exact J8 _ y13 _ _ (ho _ (sj h).symm) ((H.pick [4]).Xk [0,1,2] rfl)
  subst he;simp only at h;cases h
 refine wp_block ?_;refine Qhg _ (λ(s7:Int×List (List Int)) a w=>St M w0 168 [(44,ti (t2.length:Int)),(45,ti s7.1),(8,tv (m0 2)),(7,tptr (rI.cs (x_.Xa.length:Int))),(6,tptr ((rPtr QT).cs t1)),(4,tptr ((rSl rS).cs t0.1))] [glo,own (rSn rI) 22 s7.2 (m0 1),box (rVal.cs (m0 1)) (m0 2)] a w) _ _ h3 (H.pick [1,2,4,5,6,7]) ?_;clear h;intro s7 o a w K11 hI h ho k43;have H:=hI;clear hI;refine sr mx [] H (λ_=>.o (Qc0 z1 z0)<|.n) λ_ a w H=>?_;have H:=H.to [0,1,2,3,4,5,6] [_,_,_,_,_,_,_] [_,_,_] rfl rfl;refine wp_seq_k (λ_ k44=>?_);refine wi H h (λb12 h=>?_) (λb12 h=>?_)
 ·refine wp_skip (k44 _ _ ?_);refine wp_seq_k (λ_ k45=>?_);refine wp_block ?_;refine sr mx [] H (λ_=>.q 2 rfl<|.o (Qp z0)<|.n) λ_ a w H=>?_;have H:=H.to [1,3,4,5,6,7,8] [_,_,_,_,_,_,_] [_,_,_] rfl rfl;have⟨t14,h29,t15,h30,h⟩:=bs2 h;refine wr mx [v0 (own (rSn rI) 22 t15 (m0 1))] H (λ_=>.u [2] rfl rfl (Qbf Qe1 z3)<|.q 1 rfl<|.o (Qae QiS z7)<|.q 3 rfl<|.o (QL QvQ (Qlm.ok h29) (.cons (.of z1)<|.cons (.of z0)<|.cons (.of (Fct.Xp .fnE (Qe0 QqZ (λ_ _ hq=>QmW.ok hq))))<|.nil))<|.u [1] rfl rfl (Qhv ud68 Qhx z4 z3 h30)<|.e [] [1] [3] rfl rfl rfl rfl (Qhn Qhx z0 z1 h30)<|.n) λ_ a w H=>?_;have H:=H.to [0,7,8,9,10,11,12] [_,_,_,_,_,_,_] [_,_,_] rfl rfl;refine k45 _ _ ?_;refine wr mx [] H (λ_=>.o (QaI z2 .k)<|.q 0 rfl<|.n) λ_ a w H=>?_;have H:=H.to [1,2,3,4,5,6,7] [_,_,_,_,_,_,_] [_,_,_] rfl rfl;exact k43 _ _ _ (sj h).symm ((H.pick [2,0,3,4,5,6]).Xk [0,2,1] rfl)
 refine wp_exit ?_;exact J0 _ _ _ (ho _ (sj h).symm) (H.pick [3,4,5,6])
def Qce (s_:(List Str)) (v_:Str):Option (Int):=(Ql (λ(s0:Int)=>((if (decide (s0<(s_.length:Int)))=true then (idx s_ s0).bind λt0=>(if (v_==t0)=true then (some (.inr (.inr s0))) else (some (.inl (i64.wrap (s0+1))))) else (some (.inr (.inl ())))):Option ((Int)⊕((Unit)⊕(Int))))) (0:Int)).bind λe0=>(match e0 with | .inl _=>(some (-1:Int)) | .inr p0=>(some p0))
instance Qsp:Spc2 prog 44 Qce (λs_ v_=>[tsl rS s_,tv (.string (sB v_))]) ti:=.mk λ{s_ v_ r} h=>by
 unfold Qce at h
 refine Fe func44 ntmps44 λM0 M w0 hpl=>?_
 refine Qa [1,2] ?_
 refine Qf λK0 k0=>?_
 refine Qa [1,2,3,4] ?_
 have⟨e0,h0,h⟩:=bs h
 have J0:∀(p0:Unit),(.inl p0)=e0->To M w0 19 [] [] K0:=by
  intro p0 he;subst he;simp only at h;refine k0 <|Qa [0] ?_;exact Qo h (·▸Qm hpl)
 have J1:∀(p1:Int),(.inr p1)=e0->To M w0 19 [(4,ti p1)] [] (Ret prog f44 M0 [] w0 (λ_=>[]) (λ_=>ti r) .ret):=by
  intro p1 he;subst he;simp only at h;obtain rfl:=sj h;exact Qm hpl
 refine Qj <|Qai h0 (λ(s0:Int)=>[(7,ti (s_.length:Int)),(8,ti s0),(0,tsl rS s_),(1,tv (.string (sB v_)))]) (λ(s0:Int)=>[]) [0,1,2,3] ?_;clear h;intro s0 o K1 h ho k1;refine Qa [0,1,2,3,4] ?_;refine Qf λ_ k2=>Qn h (λ_ h=>?_) (λ_ h=>?_)
 ·refine Qq <|k2 <|Qf λ_ k3=>Qj <|Qa [1,3,4,5,6] ?_;have⟨_,_,h⟩:=bs h;refine Qa [5,6,7,8,9,10] ?_;refine Qn h (λ_ h=>?_) (λ_ h=>?_)
  ·refine Qa [1] ?_;refine Qal ?_;exact Qu J1 (ho _ (sj h).symm) [0]
  refine Qq <|k3 <|QJ [1,4,5,6] ?_;exact Qu k1 ((sj h).symm) [1,0,2,3]
 refine QN <|Qu J0 (ho _ (sj h).symm) []
def QeU (s_:(List Int)) (v_:Int):Option (Int):=(Ql (λ(s0:Int)=>((if (decide (s0<(s_.length:Int)))=true then (idx s_ s0).bind λt0=>(if (v_==t0)=true then (some (.inr (.inr s0))) else (some (.inl (i64.wrap (s0+1))))) else (some (.inr (.inl ())))):Option ((Int)⊕((Unit)⊕(Int))))) (0:Int)).bind λe0=>(match e0 with | .inl _=>(some (-1:Int)) | .inr p0=>(some p0))
instance Qu3:Spc2 prog 155 QeU (λs_ v_=>[tsl rI s_,ti v_]) ti:=.mk λ{s_ v_ r} h=>by
 unfold QeU at h
 refine Fe func155 ntmps155 λM0 M w0 hpl=>?_
 refine Qa [1,2] ?_
 refine Qf λK0 k0=>?_
 refine Qa [1,2,3,4] ?_
 have⟨e0,h0,h⟩:=bs h
 have J0:∀(p0:Unit),(.inl p0)=e0->To M w0 19 [] [] K0:=by
  intro p0 he;subst he;simp only at h;refine k0 <|Qa [0] ?_;exact Qo h (·▸Qm hpl)
 have J1:∀(p1:Int),(.inr p1)=e0->To M w0 19 [(4,ti p1)] [] (Ret prog f155 M0 [] w0 (λ_=>[]) (λ_=>ti r) .ret):=by
  intro p1 he;subst he;simp only at h;obtain rfl:=sj h;exact Qm hpl
 refine Qj <|Qai h0 (λ(s0:Int)=>[(7,ti (s_.length:Int)),(8,ti s0),(0,tsl rI s_),(1,ti v_)]) (λ(s0:Int)=>[]) [0,1,2,3] ?_;clear h;intro s0 o K1 h ho k1;refine Qa [0,1,2,3,4] ?_;refine Qf λ_ k2=>Qn h (λ_ h=>?_) (λ_ h=>?_)
 ·refine Qq <|k2 <|Qf λ_ k3=>Qj <|Qa [1,3,4,5,6] ?_;have⟨_,_,h⟩:=bs h;refine Qa [5,6,7,8,9,10] ?_;refine Qn h (λ_ h=>?_) (λ_ h=>?_)
  ·refine Qa [1] ?_;refine Qal ?_;exact Qu J1 (ho _ (sj h).symm) [0]
  refine Qq <|k3 <|QJ [1,4,5,6] ?_;exact Qu k1 ((sj h).symm) [1,0,2,3]
 refine QN <|Qu J0 (ho _ (sj h).symm) []
def QdV (s_:(List Int)) (v_:Int):Option (Bool):=(QeU s_ v_).bind λt0=>(some (decide (t0>=0)))
instance Qsq:Spc2 prog 103 QdV (λs_ v_=>[tsl rI s_,ti v_]) tb:=.mk λ{s_ v_ r} h=>by
 unfold QdV at h
 refine Fe func103 ntmps103 λM0 M w0 hpl=>?_
 refine Qa [1,2] ?_
 have⟨_,_,h⟩:=bs h
 refine Qa [4] ?_
 exact Qo h (·▸Qm hpl)
def QaP (i_:Int) (c0_:(List Int)):Option (Bool):=(QdV c0_ i_).bind λt0=>(some t0)
instance QkS:Spc2 prog 102 QaP (λi_ c0_=>[ti i_,tptr ((rSl rI).cs c0_)]) tb:=.mk λ{i_ c0_ r} h=>by
 unfold QaP at h
 refine Fe func102 ntmps102 λM0 M w0 hpl=>?_
 refine Qa [1,2] ?_
 have⟨_,_,h⟩:=bs h
 refine Qa [3] ?_
 exact Qo h (·▸Qm hpl)
def QcH (i_:Int) (c0_:(Int->Option Bool)) (c1_:Qa6):Option (Bool):=(c0_ (i64.wrap ((c1_.Xo.length:Int)+i_))).bind λt0=>(some t0)
instance QkT:Spc3 prog 104 QcH (λi_ c0_ c1_=>[ti i_,tptr (rF81.cs c0_),tptr ((rPtr QT).cs c1_)]) tb:=.mk λ{i_ c0_ c1_ r} h=>by
 unfold QcH at h
 refine Fe func104 ntmps104 λM0 M w0 hpl=>?_
 refine Qa [1,2,3] ?_
 have⟨_,_,h⟩:=bs h
 refine Qa [9] ?_
 exact Qo h (·▸Qm hpl)
def QeH (k_:Int) (c0_:Qa6) (c1_:(Int->Option Bool)):Option (Bool):=(QcU c0_ k_ c1_).bind λt0=>(some (!t0.isEmpty))
instance Quh:Spc3 prog 105 QeH (λk_ c0_ c1_=>[ti k_,tptr ((rPtr QT).cs c0_),tptr (rF81.cs c1_)]) tb:=.mk λ{k_ c0_ c1_ r} h=>by
 unfold QeH at h
 refine Fe func105 ntmps105 λM0 M w0 hpl=>?_
 refine Qa [1,2,3] ?_
 have⟨_,_,h⟩:=bs h
 refine Qa [5] ?_
 exact Qo h (·▸Qm hpl)
def Qc6 (s_:Qa6) (some_:(List Int)):Option (Bool):=(QaH s_ (λx0=>QaP x0 some_) (λx0=>QeH x0 s_ (λx0=>QcH x0 (λx0=>QaP x0 some_) s_))).bind λt0=>(some t0)
instance Qir:Spc2 prog 45 Qc6 (λs_ some_=>[tptr (QT.cs s_),tsl rI some_]) tb:=.mk λ{s_ some_ r} h=>by
 unfold Qc6 at h
 refine Fe func45 ntmps45 λM0 M w0 hpl=>?_
 refine Qa [0,1] ?_
 intro a w H
 refine sr mx [v1 1 (λv0=>box [tvs .nilFunc] v0),v1 1 (λv0=>box (rF81.cs (λx0=>QaP x0 some_)) v0)] H (λ_=>.o (Qjl (.cons z1<|.nil))<|.m [] [0] rfl rfl rfl (QbH (R:=rVal) (a:=.nilFunc) Qte zokPf)<|.e [] [0] [1] rfl rfl rfl rfl (Qbd (R:=rF81) (a:=(λx0=>QaP x0 some_)) Qt5 z0 (Fct.Xp z1 (Qe0 Qs0 (λ_ _ hq=>QkS.ok hq))) (leb rfl))<|.n) λ_ a w H=>?_
 replace H:St _ _ _ [_,_] [] _ _:=(((H.pick [1,2]).Xl 0 rfl).add 0 rfl (λ_ _ _ h=>h.2)).pick [0,3]
 refine Q6 H ?_
 intro a w H
 refine sr mx [v1 1 (λv0=>box [tvs .nilFunc] v0),v1 1 (λv0=>box (rF81.cs (λx0=>QcH x0 (λx0=>QaP x0 some_) s_)) v0)] H (λ_=>.o (Qjl (.cons z0<|.cons z1<|.nil))<|.m [] [0] rfl rfl rfl (QbH (R:=rVal) (a:=.nilFunc) Qte zokPf)<|.e [] [0] [1] rfl rfl rfl rfl (Qbd (R:=rF81) (a:=(λx0=>QcH x0 (λx0=>QaP x0 some_) s_)) Qt5 z0 (Fct.Xp z1 (Qe0 Qs1 (λ_ _ hq=>QkT.ok hq))) (leb rfl))<|.n) λ_ a w H=>?_
 replace H:St _ _ _ [_,_,_] [] _ _:=(((H.pick [1,2,3]).Xl 0 rfl).add 0 rfl (λ_ _ _ h=>h.2)).pick [0,3,4]
 refine Q6 H ?_
 have⟨_,_,h⟩:=bs h
 refine Qa [4] ?_
 exact Qo h (·▸Qm hpl)
def QeV (s_:(List Int)):Option ((List Int)):=(rm (([]:List Int).length+s_.length)).bind λ_=>(some (([]:List Int)++s_))
instance Qln:SpcS prog 47 (∀{s_:(List Int)} {r:(List Int)},QeV s_=some r->FnOk prog 47 [tsl rI s_] [] (λv=>[own rI 3 r v]) (λv=>tv v)):=.mk λ{s_ r} h=>by
 unfold QeV at h
 refine Fe func47 ntmps47 λM0 M w0 hpl=>?_
 refine Qa [1] ?_
 refine Qf λ_ k0=>?_
 refine Qa [1,2] ?_
 refine tTestN 0 (λb0=>?_) ?_
 ·replace h:(some ([]:List Int))=some r:=by
   have⟨_,_,h⟩:=bs h;rw[b0] at h;exact h
  refine Qa [0] ?_;refine Q1 (λ_ _ H=>H.nil (rI) 3) ?_;exact Qo h (·▸Qcv (.slice none 0 0) [0] hpl)
 refine Qq <|k0 ?_;have⟨_,_,h⟩:=bs h;refine QM [v1 0 (λv0=>own rI 3 ([]:List Int) v0),v1 2 (λv0=>own rI 3 (([]:List Int)++s_) v0)] [1,3] [2,3] λm0=>?_;exact Qo h (·▸Qcv (m0 2) [0] hpl)
def QcN (x_:Qb) (names_:(List Str)):Option (Int):=(Qf0 x_).bind λt0=>(if (t0.2 !=0)=true then (some t0.2) else (Qf1 x_).bind λt1=>(if (decide ((t1.Xo.length:Int)>16))=true then (some (4:Int)) else (Ql (λ(s0:Int×List Int)=>((if (decide (s0.1<(names_.length:Int)))=true then (idx names_ s0.1).bind λt2=>(Qce t0.1 t2).bind λt3=>(opt (((decide (t3<0))==false)&&((decide ((s0.2.length:Int)>0))==true)) (idx s0.2 (i64.wrap ((s0.2.length:Int) - 1))) default).bind λt4=>(if ((decide (t3<0))||((decide ((s0.2.length:Int)>0))&&(decide (t3<=t4))))=true then (some (.inr (.inr (12:Int)))) else (rm (s0.2.length+[t3].length)).bind λ_=>(some (.inl ((i64.wrap (s0.1+1)),(s0.2++[t3]))))) else (some (.inr (.inl s0.2)))):Option ((Int×List Int)⊕((List Int)⊕(Int))))) ((0:Int),([]:List Int))).bind λe0=>(match e0 with | .inl p0=>(Qc6 t1 p0).bind λt5=>(if t5=true then (some (15:Int)) else (Ql (λ(s1:Int)=>((if (decide (s1<(p0.length:Int)))=true then (QeV p0).bind λt6=>(QeB t6 s1 (i64.wrap (s1+1))).bind λt7=>(Qc6 t1 t7).bind λt8=>(if (!t8)=true then (some (.inr (.inr (15:Int)))) else (some (.inl (i64.wrap (s1+1))))) else (some (.inr (.inl ())))):Option ((Int)⊕((Unit)⊕(Int))))) (0:Int)).bind λe1=>(match e1 with | .inl _=>(some (0:Int)) | .inr p1=>(some p1))) | .inr p2=>(some p2))))
instance Qqg:SpcS prog 11 (∀{x_:Qb} {names_:(List Str)} {r:Int},QcN x_ names_=some r->FnOk prog 11 [Qd.ty x_,tsl rS names_] [glo] (λ_=>[]) (λ_=>ti r)):=.mk λ{x_ names_ r} h=>by
 unfold QcN at h
 refine Fe func11 ntmps11 λM0 M w0 hpl=>?_
 refine Qa [0,3] ?_
 have⟨t0,_,h⟩:=bs h
 refine Qa [5,6,7,8] ?_
 refine tIfs h [1,2,3,4,5] (λ_ h=>?_) (λ_ h=>?_)
 ·refine Qa [1] ?_
  exact Qo h (·▸Qm hpl)
 have⟨t1,_,h⟩:=bs h
 refine Qa [2,4,7] ?_
 refine tIfs h [5,6,7,8] (λ_ h=>?_) (λ_ h=>?_)
 ·refine Qa [0] ?_
  exact Qo h (·▸Qm hpl)
 refine Qa [0,2,3,4] ?_
 refine Q1 (λ_ _ H=>H.nil (rI) 3) ?_
 refine Qf λK0 k0=>?_
 refine Qa [0,1,2,3,4,5] ?_
 have⟨e0,h0,h⟩:=bs h
 have J0:∀(p0:List Int) (y0:Value),(.inl p0)=e0->To M w0 78 [(8,tv y0),(7,tptr (QT.cs t1))] [own rI 3 p0 y0,glo] K0:=by
  intro p0 y0 he;subst he;simp only at h;refine k0 <|Qf λ_ k1=>?_;have⟨t2,h1,h⟩:=bs h;intro a w H;refine sr mx [] H (λ_=>.q 1 rfl<|.q 1 rfl<|.u [0] rfl rfl (Qey [own rI 3 p0 y0] Qq3 (Qir.ok h1) (.cons (.of z1)<|.cons (.own z0 (.head _))<|.nil) (λ_=>Qc2) (λ_=>QgW (x:=undef)))<|.n) λ_ a w H=>?_;have H:=H.to [1,2,3,4] [_,_,_,_] [_,_] rfl rfl;refine Q6 H ?_;refine QfI 1 (λb0=>?_) (λb0=>?_)
  ·replace h:=Qdc b0 h;refine Qa [0,1,3] ?_;exact Qo h (·▸Qm hpl)
  replace h:=Qdd b0 h;refine Qq <|k1 <|Qf λK1 k2=>Qa [0,1,2,3,5,6] ?_;have⟨e1,h2,h⟩:=bs h;have J1:∀(p1:Unit),(.inl p1)=e1->To M w0 78 [] [glo] K1:=by
   intro p1 he;subst he;simp only at h;refine k2 <|Qa [0] ?_;exact Qo h (·▸Qm hpl)
  have J2:∀(p2:Int),(.inr p2)=e1->To M w0 78 [(4,ti p2)] [glo] (Ret prog f11 M0 [glo] w0 (λ_=>[]) (λ_=>ti r) .ret):=by
   intro p2 he;subst he;simp only at h;obtain rfl:=sj h;exact Qm hpl
  refine Qj <|Qai h2 (λ(s0:Int)=>[(64,ti (p0.length:Int)),(65,ti s0),(8,tv y0),(7,tptr (QT.cs t1))]) (λ(s0:Int)=>[own rI 3 p0 y0,glo]) [1,2,4,5] ?_;clear h;intro s0 o K2 h ho k3;refine Qa [0,1,2,3,4] ?_;refine Qf λ_ k4=>Qn h (λ_ h=>?_) (λ_ h=>?_)
  ·refine Qq <|k4 <|Qf λ_ k5=>Qj <|Qa [1,3,4,5,6] ?_;have⟨t3,h3,_,h4,t4,h5,h⟩:=bs3 h;intro a w H;refine sr mx [v1 2 (λv0=>own rI 3 t3 v0)] H (λ_=>.q 4 rfl<|.q 4 rfl<|.m [0] [2] rfl rfl rfl (Qey [own rI 3 p0 y0] QvY (Qln.ok h3) (.cons (.own z0 (.head _))<|.nil) (λ_=>Qc2) (λ_=>flatN1 (QxF (by intro x T h;simp at h;(first | (subst h;exact Qc2) | (rcases h with h | h | h<;>subst h<;>exact Qc2))))))<|.q 3 rfl<|.q 4 rfl<|.o (QaI z0 .k)<|.e [] [2] [] rfl rfl rfl rfl (QL QvX ((QkO h4).roE QzT) (.cons (.of z3)<|.cons (.of z2)<|.cons (.of z0)<|.nil))<|.o (QL Qq3 (Qir.ok h5) (.cons (.of z6)<|.cons (.of z0)<|.nil))<|.o (Qj4 z0)<|.n) λ_ a w H=>?_;have H:=H.to [1,8,10,11,12,13] [_,_,_,_,_,_] [_,_] rfl rfl;refine Q6 H ?_;refine QfI 1 (λb1=>?_) (λb1=>?_)
   ·replace h:=Qdc b1 h;refine Qa [0,1,5] ?_;refine Qal ?_;refine Qah (λ_ _ H=>(H.pick [0]).Xk [1] rfl) ?_;exact Qu J2 (ho _ (sj h).symm) [0]
   replace h:=Qdd b1 h;refine Qq <|k5 <|QJ [1,2,4,5,6] ?_;exact Qu k3 ((sj h).symm) [2,0,3,4]
  refine QN <|Qah (λ_ _ H=>(H.pick []).Xk [1] rfl) ?_;exact Qu J1 (ho _ (sj h).symm) []
 have J3:∀(p3:Int),(.inr p3)=e0->To M w0 78 [(4,ti p3)] [glo] (Ret prog f11 M0 [glo] w0 (λ_=>[]) (λ_=>ti r) .ret):=by
  intro p3 he;subst he;simp only at h;obtain rfl:=sj h;exact Qm hpl
 refine Qj <|QaF h0 (λ(s1:Int×List Int) (y1:Value)=>[(29,tsl rS names_),(30,ti (names_.length:Int)),(31,ti s1.1),(8,tv y1),(7,tptr (QT.cs t1)),(5,tsl rS t0.1)]) (λ(s1:Int×List Int) (y1:Value)=>[own rI 3 s1.2 y1,glo]) (.slice none 0 0) [0,1,2,3,4,5] ?_;clear h;intro s1 y1 o K3 h ho k6;refine Qa [0,1,2,3,4,5,6] ?_;refine Qf λ_ k7=>Qn h (λ_ h=>?_) (λ_ h=>?_)
 ·refine Qq <|k7 <|Qf λ_ k8=>Qj ?_;have⟨_,_,h⟩:=bs h;refine Qa [2,4,5,6,7,8,9] ?_;have⟨t5,_,h⟩:=bs h;refine Qa [3,5,6,7,8,9,10] ?_;have⟨_,_,h⟩:=bs h;refine tIfs h [16,17,18,19,20,21,22,23] (λ_ h=>?_) (λ_ h=>?_)
  ·refine Qa [0,6] ?_;refine Qal ?_;refine Qah (λ_ _ H=>(H.pick [0]).Xk [1] rfl) ?_;exact Qu J3 (ho _ (sj h).symm) [0]
  have⟨_,_,h⟩:=bs h;refine Qau [v1 3 (λv0=>own rI 3 (s1.2++[t5]) v0)] [4] [3,4,7,8,9,10,11] λm0=>?_;refine k8 <|QJ [1,2,3,4,5,6,7] ?_;refine Qah (λ_ _ H=>(H.pick [3,4,0,2,5,6]).Xk [1,0] rfl) ?_;exact QX k6 (m0 3) ((sj h).symm) [0,1,2,3,4,5]
 refine QN <|QX J0 y1 (ho _ (sj h).symm) [4,5]
def QgM (l_:(List Str)) (name_:Str):Option (Bool):=(Ql (λ(s0:Int)=>((if (decide (s0<(l_.length:Int)))=true then (idx l_ s0).bind λt0=>(if (t0==name_)=true then (some (.inr (.inr true))) else (some (.inl (i64.wrap (s0+1))))) else (some (.inr (.inl ())))):Option ((Int)⊕((Unit)⊕(Bool))))) (0:Int)).bind λe0=>(match e0 with | .inl _=>(some false) | .inr p0=>(some p0))
instance QC9:Spc2 prog 63 QgM (λl_ name_=>[tsl rS l_,tv (.string (sB name_))]) tb:=.mk λ{l_ name_ r} h=>by
 unfold QgM at h
 refine Fe func63 ntmps63 λM0 M w0 hpl=>?_
 refine Qa [1,2] ?_
 refine Qf λK0 k0=>?_
 refine Qa [0,1,2] ?_
 have⟨e0,h0,h⟩:=bs h
 have J0:∀(p0:Unit),(.inl p0)=e0->To M w0 18 [] [] K0:=by
  intro p0 he;subst he;simp only at h;refine k0 <|Qa [0] ?_;exact Qo h (·▸Qm hpl)
 have J1:∀(p1:Bool),(.inr p1)=e0->To M w0 18 [(4,tb p1)] [] (Ret prog f63 M0 [] w0 (λ_=>[]) (λ_=>tb r) .ret):=by
  intro p1 he;subst he;simp only at h;obtain rfl:=sj h;exact Qm hpl
 refine Qj <|Qai h0 (λ(s0:Int)=>[(5,ti s0),(0,tsl rS l_),(1,tv (.string (sB name_)))]) (λ(s0:Int)=>[]) [0,1,2] ?_;clear h;intro s0 o K1 h ho k1;refine Qf λ_ k2=>Qa [3,4,5,6] ?_;refine Qn h (λ_ h=>?_) (λ_ h=>?_)
 ·refine Qq <|k2 <|Qf λ_ k3=>Qj ?_;have⟨_,_,h⟩:=bs h;refine Qa [5,7,8,9] ?_;refine Qn h (λ_ h=>?_) (λ_ h=>?_)
  ·refine Qa [0] ?_;refine Qal ?_;exact Qu J1 (ho _ (sj h).symm) [0]
  refine Qq <|k3 <|QJ [2,4,5] ?_;exact Qu k1 ((sj h).symm) [0,1,2]
 refine QN <|Qu J0 (ho _ (sj h).symm) []
def Qgv (n_:Int) (l_:(List QE)):Option (Int):=(if ((decide (n_>10))||(decide ((l_.length:Int)>64)))=true then (some (4:Int)) else (if (decide (n_<0))=true then (some (1:Int)) else (Ql (λ(s0:Int)=>((if (decide (s0<(l_.length:Int)))=true then (idx l_ s0).bind λt0=>(if (((((((decide (t0.A<(-1:Int)))||(decide (t0.A>=n_)))||(decide (t0.B<(-1:Int))))||(decide (t0.B>=n_)))||(t0.A==t0.B))||(decide (t0.N<(-2097152:Int))))||(decide (t0.N>2097152)))=true then (some (.inr (.inr (1:Int)))) else (some (.inl (i64.wrap (s0+1))))) else (some (.inr (.inl ())))):Option ((Int)⊕((Unit)⊕(Int))))) (0:Int)).bind λe0=>(match e0 with | .inl _=>(some (0:Int)) | .inr p0=>(some p0))))
instance QCd:Spc2 prog 151 Qgv (λn_ l_=>[ti n_,tsl Qad l_]) ti:=.mk λ{n_ l_ r} h=>by
 unfold Qgv at h
 refine Fe func151 ntmps151 λM0 M w0 hpl=>?_
 refine Qa [1,2] ?_
 refine tIfs h [6,7,8] (λ_ h=>?_) (λ_ h=>?_)
 ·refine Qa [0] ?_
  exact Qo h (·▸Qm hpl)
 refine tIfs h [1,3,4] (λ_ h=>?_) (λ_ h=>?_)
 ·refine Qa [0] ?_
  exact Qo h (·▸Qm hpl)
 refine Qf λK0 k0=>?_
 refine Qa [0,2,3] ?_
 have⟨e0,h0,h⟩:=bs h
 have J0:∀(p0:Unit),(.inl p0)=e0->To M w0 63 [] [] K0:=by
  intro p0 he;subst he;simp only at h;refine k0 <|Qa [0] ?_;exact Qo h (·▸Qm hpl)
 have J1:∀(p1:Int),(.inr p1)=e0->To M w0 63 [(4,ti p1)] [] (Ret prog f151 M0 [] w0 (λ_=>[]) (λ_=>ti r) .ret):=by
  intro p1 he;subst he;simp only at h;obtain rfl:=sj h;exact Qm hpl
 refine Qj <|Qai h0 (λ(s0:Int)=>[(5,ti s0),(0,ti n_),(1,tsl Qad l_)]) (λ(s0:Int)=>[]) [0,1,2] ?_;clear h;intro s0 o K1 h ho k1;refine Qf λ_ k2=>Qa [3,4,5,6] ?_;refine Qn h (λ_ h=>?_) (λ_ h=>?_)
 ·refine Qq <|k2 <|Qf λ_ k3=>Qj ?_;have⟨t0,_,h⟩:=bs h;refine QM [v1 4 (λv0=>box (Qad.cs (QE.mk (0:Int) (0:Int) (0:Int))) v0),v1 4 (λv0=>box (Qad.cs t0) v0)] [5,6] [4,6,7,8] λm0=>?_;refine Q1 (λ_ _ H=>((H.Xl 0 rfl).add 0 rfl (λ_ _ _ h=>h.2)).pick [0,3,4,5]) ?_;refine Qa [36,38,39,40] ?_;refine Qn h (λ_ h=>?_) (λ_ h=>?_)
  ·refine Qa [0] ?_;refine Qal ?_;exact Qu J1 (ho _ (sj h).symm) [0]
  refine Qq <|k3 <|QJ [2,4,5] ?_;exact Qu k1 ((sj h).symm) [0,1,2]
 refine QN <|Qu J0 (ho _ (sj h).symm) []
def QaQ (n_:Int) (a_:Int):Option (Int):=(if (decide (a_<0))=true then (some n_) else (some a_))
instance QDa:Spc2 prog 153 QaQ (λn_ a_=>[ti n_,ti a_]) ti:=.mk λ{n_ a_ r} h=>by
 unfold QaQ at h
 refine Fe func153 ntmps153 λM0 M w0 hpl=>?_
 refine Qa [1,2] ?_
 refine tIfs h [1,2,3] (λ_ h=>?_) (λ_ h=>?_)
 ·refine Qa [1] ?_
  exact Qo h (·▸Qm hpl)
 refine Qa [1] ?_
 exact Qo h (·▸Qm hpl)
def Qf2 (n_:Int) (l_:(List QE)) (from_:Int) (to_:Int) (most_:Int):Option ((List (List Int))):=(mk (i64.wrap (most_+1)) ([]:(List Int))).bind λt0=>(Ql (λ(s0:Int×List (List Int))=>((if (decide (s0.1<=most_))=true then ((mk (i64.wrap (n_+1)) (0:Int)).bind λt1=>(setAt s0.2 s0.1 t1).bind λw30s=>(Ql (λ(s1:Int×List (List Int))=>((if (decide (s1.1<=n_))=true then (idx s1.2 s0.1).bind λr2=>(setAt r2 s1.1 (1099511627776:Int)).bind λt2=>(setAt s1.2 s0.1 t2).bind λm559=>(some (.inl ((i64.wrap (s1.1+1)),m559))) else (some (.inr s1.2))):Option ((Int×List (List Int))⊕((List (List Int)))))) ((0:Int),w30s)).bind λp0=>(if (s0.1==0)=true then (idx p0 0).bind λr3=>(setAt r3 to_ (0:Int)).bind λt3=>(setAt p0 (0:Int) t3).bind λm496=>(some m496) else (Ql (λ(s2:Int×List (List Int))=>((if (decide (s2.1<(l_.length:Int)))=true then (idx l_ s2.1).bind λt4=>(QaQ n_ t4.A).bind λt5=>(idx l_ s2.1).bind λt6=>(QaQ n_ t6.B).bind λt7=>(idx s2.2 (i64.wrap (s0.1 - 1))).bind λr4=>(idx r4 t7).bind λt8=>((if (decide (t8<1099511627776))=true then (idx s2.2 s0.1).bind λr5=>(idx r5 t5).bind λt9=>(idx l_ s2.1).bind λt10=>(idx s2.2 (i64.wrap (s0.1 - 1))).bind λr6=>(idx r6 t7).bind λt11=>(setAt r5 t5 (imin t9 (i64.wrap (t10.N+t11)))).bind λt12=>(setAt s2.2 s0.1 t12).bind λm550=>(some m550) else (some s2.2))).bind λp1=>(some (.inl ((i64.wrap (s2.1+1)),p1))) else (some (.inr s2.2))):Option ((Int×List (List Int))⊕((List (List Int)))))) ((i64.wrap (from_+1)),p0)).bind λp2=>(some p2))).bind λp3=>(some (.inl ((i64.wrap (s0.1+1)),p3))) else (some (.inr s0.2))):Option ((Int×List (List Int))⊕((List (List Int)))))) ((0:Int),t0)).bind λp4=>(some p4)
instance QC4:Spc5 prog 152 Qf2 (λn_ l_ from_ to_ most_=>[ti n_,tsl Qad l_,ti from_,ti to_,ti most_]) (tsl (rSl rI)):=.mk λ{n_ l_ from_ to_ most_ r} h=>by
 unfold Qf2 at h
 refine Fe func152 ntmps152 λM0 M w0 hpl=>?_
 refine Qa [1,2,3,4,5] ?_
 have⟨t0,h0,h⟩:=bs h
 intro a w H
 refine sr mx [v1 2 (λv0=>own rVal 22 (replicate ((i64.wrap (most_+1))).toNat nilV) v0)] H (λ_=>.q 4 rfl<|.o (QaI z0 .k)<|.m [] [0] rfl rfl rfl (QxH (α:=Int) ud68 Qaz (leb rfl) z0 z0 h0)<|.ud (f:=λv=>tv v) 2 rfl [] rfl rfl (Qp z0)<|.n) λm0 a w H=>?_
 replace H:St _ _ _ [_,_,_,_,_,_,_] [_,_] _ _:=(H.pick [2,3,4,5,6,7,8]).rowsM (rI) 3 h0
 refine Q6 H ?_
 refine Qf λK0 k0=>?_
 refine Qa [0,1,2,3,4,5,6,7] ?_
 have⟨e0,h1,h⟩:=bs h
 have J0:∀(p0:List (List Int)) (us376:List Value) (y0:Value),p0=e0->To M w0 109 [(11,tv y0)] [rows rI 3 p0 us376,own rVal 22 us376 y0] K0:=by
  intro p0 us376 y0 he;subst he;refine k0 <|Qa [0,1,2] ?_;refine Qal ?_;refine Qah (λ_ _ H=>((H.Xk [1,0] rfl).shareT 1 rfl).pick [0]) ?_;obtain rfl:=sj h;exact Qm hpl
 refine Qj <|Qjo h1 (λ(s0:Int×List (List Int)) (us191:List Value) (y1:Value)=>[(12,ti s0.1),(11,tv y1),(0,ti n_),(1,tsl Qad l_),(2,ti from_),(3,ti to_),(4,ti most_)]) (λ(s0:Int×List (List Int)) (us191:List Value) (y1:Value)=>[rows rI 3 s0.2 us191,own rVal 22 us191 y1]) (replicate ((i64.wrap (most_+1))).toNat nilV) (m0 2) [0,2,3,4,5,6,7] ?_;clear h;intro s0 us191 y1 o K1 h ho k1;refine Qf λ_ k2=>Qa [2,3,4,5,6,7,8,9] ?_;refine Qn h (λ_ h=>?_) (λ_ h=>?_)
 ·refine Qq <|k2 <|Qf λK2 k3=>?_;have⟨p1,h2,h⟩:=bs h;have J1:∀(us472:List Value),To M w0 109 [(12,ti s0.1),(11,tv y1),(0,ti n_),(1,tsl Qad l_),(2,ti from_),(3,ti to_),(4,ti most_)] [own rVal 22 us472 y1,rows rI 3 p1 us472] K2:=by
   intro us472;refine k3 <|QJ [2,3,4,5,6,7,8] ?_;refine Qah (λ_ _ H=>(H.pick [0,1,2,3,4,5,6]).Xk [1,0] rfl) ?_;exact QeD k1 us472 y1 ((sj h).symm) [0,1,2,3,4,5,6]
  replace h:=h2;clear h2;refine Qj <|Qf λ_ k4=>?_;have⟨t1,h3,w30s,hw30s,h⟩:=bs2 h;intro a w H;refine wr mx [v1 4 (λv0=>own rI 3 t1 v0),v1 4 (λv0=>own rVal 22 (us191.set (s0.1).toNat v0) y1)] H (λ_=>.q 2 rfl<|.q 2 rfl<|.q 5 rfl<|.o (QaI z0 .k)<|.m [] [2] rfl rfl rfl (Qhf (R:=rI) ud22 tok3 zok3 (leb rfl) z0 z0 h3)<|.u [1,0] rfl rfl (QtL ud68 Qaz z4 z3 hw30s)<|.e [0,2] [1] [3] rfl rfl rfl rfl (QzV (e1:=22) (e2:=3) Qaz z0 z1 hw30s)<|.n) λm1 a w H=>?_;replace H:St _ _ _ [_,_,_,_,_,_,_,_,_] [_,_] _ _:=((H.pick [0,4,7,8,9,10,11,12,13]).Xk [1,0,2] rfl).put (s0.1) hw30s;refine QbC H ?_;refine k4 <|Qf λK3 k5=>Qa [0,1,3,4,5,6,7,8,9] ?_;have⟨e3,h4,h⟩:=bs h;have J2:∀(p2:List (List Int)),p2=e3->To M w0 109 [(12,ti s0.1),(11,tv y1),(0,ti n_),(1,tsl Qad l_),(2,ti from_),(3,ti to_),(4,ti most_)] [rows rI 3 p2 (us191.set (s0.1).toNat (m1 4)),own rVal 22 (us191.set (s0.1).toNat (m1 4)) y1] K3:=by
   intro p2 he;subst he;refine k5 <|tIfs h [1,2,3,4,5,6,7,8] (λ_ h=>?_) (λ_ h=>?_)
   ·refine Qf λ_ k6=>?_;have⟨r2,h5,_,h6,m496,hm496,h⟩:=bs3 h;intro a w H;refine wr mx [v0 (rows rI 3 m496 (us191.set (s0.1).toNat (m1 4)))] H (λ_=>.q 2 rfl<|.u [1,0] rfl rfl (Qez ud68 Qaz z0 .k h5)<|.u [1,0] rfl rfl (Qfl Qaz z0 h5)<|.q 9 rfl<|.u [0] rfl rfl (QiP ud22 tok3 z1 z0 h5 h6)<|.e [] [0] [2] rfl rfl rfl rfl (QjD tok3 z0 .k h5 h6 hm496)<|.n) λ_ a w H=>?_;have H:=H.to [0,6,7,8,9,10,11,12] [_,_,_,_,_,_,_,_] [_,_] rfl rfl;refine QbC H ?_;refine k6 <|QN ?_;obtain rfl:=sj h;exact QR (J1 (us191.set (s0.1).toNat (m1 4))) [1,2,3,4,5,6,7]
   refine Qa [2,4,5,6,7,8,9,10] ?_;have⟨e4,h7,h⟩:=bs h;have J3:∀(p3:List (List Int)),p3=e4->To M w0 109 [(12,ti s0.1),(11,tv y1),(0,ti n_),(1,tsl Qad l_),(2,ti from_),(3,ti to_),(4,ti most_)] [rows rI 3 p3 (us191.set (s0.1).toNat (m1 4)),own rVal 22 (us191.set (s0.1).toNat (m1 4)) y1] K2:=by
    intro p3 he;subst he;obtain rfl:=sj h;refine Qah (λ_ _ H=>(H.pick [0,1,2,3,4,5,6]).Xk [1,0] rfl) ?_;exact QR (J1 (us191.set (s0.1).toNat (m1 4))) [0,1,2,3,4,5,6]
   refine Qj <|Qai h7 (λ(s1:Int×List (List Int))=>[(14,ti s1.1),(12,ti s0.1),(11,tv y1),(0,ti n_),(1,tsl Qad l_),(2,ti from_),(3,ti to_),(4,ti most_)]) (λ(s1:Int×List (List Int))=>[rows rI 3 s1.2 (us191.set (s0.1).toNat (m1 4)),own rVal 22 (us191.set (s0.1).toNat (m1 4)) y1]) [0,1,2,3,4,5,6,7] ?_;clear h;intro s1 o K4 h ho k7;refine Qf λ_ k8=>Qa [3,4,5,6,7,8,9,10,11] ?_;refine Qn h (λ_ h=>?_) (λ_ h=>?_)
   ·refine Qq <|k8 <|Qf λK5 k9=>Qj ?_;have⟨_,_,t2,_,h⟩:=bs2 h;refine Qa [7,9,10,11,12,13,14,15,16] ?_;have⟨_,_,t3,_,h⟩:=bs2 h;refine Qa [7,8,9,10,11,12,13,14,15,16] ?_;refine Qf λ_ k10=>?_;have⟨r3,h8,t4,h9,h⟩:=bs2 h;intro a w H;refine wr mx [] H (λ_=>.q 4 rfl<|.q 4 rfl<|.o (Qlt z0 .k)<|.u [1,0] rfl rfl (Qez ud68 Qaz z2 z0 h8)<|.u [1,0] rfl rfl (Qfl Qaz z0 h8)<|.q 5 rfl<|.u [0] rfl rfl (QiO ud22 tok3 z1 z0 h8 h9)<|.u [0] rfl rfl (Qkw tok3 z0 h8 h9)<|.o (Qc0 z0 .k)<|.n) λ_ a w H=>?_;have H:=H.to [0,8,9,10,11,12,13,14,15,16,17,18] [_,_,_,_,_,_,_,_,_,_,_,_] [_,_] rfl rfl;refine QbC H ?_;refine k10 ?_;have⟨p4,h10,h⟩:=bs h;have J4:To M w0 109 [(14,ti s1.1),(12,ti s0.1),(11,tv y1),(0,ti n_),(1,tsl Qad l_),(2,ti from_),(3,ti to_),(4,ti most_)] [own rVal 22 (us191.set (s0.1).toNat (m1 4)) y1,rows rI 3 p4 (us191.set (s0.1).toNat (m1 4))] K5:=by
     refine k9 <|QJ [2,3,4,5,6,7,8,9] ?_;refine Qah (λ_ _ H=>(H.pick [0,1,2,3,4,5,6,7]).Xk [1,0] rfl) ?_;exact Qu k7 ((sj h).symm) [0,1,2,3,4,5,6,7]
    replace h:=h10;clear h10;refine QfI 1 (λb0=>?_) (λb0=>?_)
    ·replace h:=Qdc b0 h;have⟨r4,h11,_,h12,t5,h13,r5,h14,h⟩:=bs4 h;have⟨_,h15,_,h16,m550,hm550,h⟩:=bs3 h;intro a w H;refine wr mx [v0 (rows rI 3 m550 (us191.set (s0.1).toNat (m1 4)))] H (λ_=>.q 6 rfl<|.q 6 rfl<|.u [1,0] rfl rfl (Qez ud68 Qaz z1 z0 h11)<|.u [1,0] rfl rfl (Qfl Qaz z0 h11)<|.q 7 rfl<|.q 11 rfl<|.q 11 rfl<|.u [1,0] rfl rfl (Qez ud68 Qaz z1 z0 h11)<|.u [1,0] rfl rfl (Qfl Qaz z0 h11)<|.q 12 rfl<|.u [0] rfl rfl (QiO ud22 tok3 z1 z0 h11 h12)<|.u [0] rfl rfl (Qkw tok3 z0 h11 h12)<|.q 20 rfl<|.q 17 rfl<|.o (Qd7 underlying184 QnQ z1 z0 h13)<|.o (Q7 QsY z0)<|.o (Q5 (u:=t5.N) tok3 z0 rfl)<|.q 23 rfl<|.q 23 rfl<|.o (Qlt z0 .k)<|.u [1,0] rfl rfl (Qez ud68 Qaz z2 z0 h14)<|.u [1,0] rfl rfl (Qfl Qaz z0 h14)<|.q 24 rfl<|.u [0] rfl rfl (QiO ud22 tok3 z1 z0 h14 h15)<|.u [0] rfl rfl (Qkw tok3 z0 h14 h15)<|.o (QaI z8 z0)<|.o (QqG z14 z0)<|.u [0] rfl rfl (QiP ud22 tok3 z23 z22 h11 h16)<|.e [] [0] [2] rfl rfl rfl rfl (QjD tok3 z0 z1 h11 h16 hm550)<|.n) λ_ a w H=>?_;have H:=H.to [0,5,17,28,32,33,34,35,36,37,38,39] [_,_,_,_,_,_,_,_,_,_,_,_] [_,_] rfl rfl;refine QbC H ?_;obtain rfl:=sj h;exact QR J4 [4,5,6,7,8,9,10,11]
    replace h:=Qdd b0 h;refine Qq ?_;obtain rfl:=sj h;refine Qah (λ_ _ H=>(H.pick [4,5,6,7,8,9,10,11]).Xk [1,0] rfl) ?_;exact QR J4 [0,1,2,3,4,5,6,7]
   refine QN <|Qu J3 (ho _ (sj h).symm) [2,3,4,5,6,7,8]
  refine Qj <|Qai h4 (λ(s2:Int×List (List Int))=>[(13,ti s2.1),(12,ti s0.1),(11,tv y1),(0,ti n_),(1,tsl Qad l_),(2,ti from_),(3,ti to_),(4,ti most_)]) (λ(s2:Int×List (List Int))=>[rows rI 3 s2.2 (us191.set (s0.1).toNat (m1 4)),own rVal 22 (us191.set (s0.1).toNat (m1 4)) y1]) [0,2,3,4,5,6,7,8] ?_;clear h;intro s2 o K6 h ho k11;refine Qf λ_ k12=>Qa [2,3,4,5,6,7,8,9,10] ?_;refine Qn h (λ_ h=>?_) (λ_ h=>?_)
  ·refine Qq <|k12 <|Qf λ_ k13=>Qj ?_;have⟨r6,h17,_,h18,m559,hm559,h⟩:=bs3 h;intro a w H;refine wr mx [v0 (rows rI 3 m559 (us191.set (s0.1).toNat (m1 4)))] H (λ_=>.q 3 rfl<|.q 3 rfl<|.u [1,0] rfl rfl (Qez ud68 Qaz z1 z0 h17)<|.u [1,0] rfl rfl (Qfl Qaz z0 h17)<|.q 5 rfl<|.u [0] rfl rfl (QiP ud22 tok3 z1 z0 h17 h18)<|.e [] [0] [2] rfl rfl rfl rfl (QjD tok3 z0 .k h17 h18 hm559)<|.n) λ_ a w H=>?_;have H:=H.to [0,7,8,9,10,11,12,13,14] [_,_,_,_,_,_,_,_,_] [_,_] rfl rfl;refine QbC H ?_;refine k13 <|QJ [2,3,4,5,6,7,8,9,10] ?_;refine Qah (λ_ _ H=>(H.pick [0,2,3,4,5,6,7,8]).Xk [1,0] rfl) ?_;exact Qu k11 ((sj h).symm) [0,1,2,3,4,5,6,7]
  refine QN <|Qu J2 (ho _ (sj h).symm) [2,3,4,5,6,7,8]
 refine QN <|QeD J0 us191 y1 (ho _ (sj h).symm) [2]
