/- The walk. No condition. -/
import Derived.Test.YtlajingmjmnfgaaGreatDoorGenE
set_option linter.all false
open Go.Proofs.Tryz Go.IntKind
namespace Go.Proofs.YtlajingmjmnfgaaGreatDoor
noncomputable section
open Go.Sim
set_option maxRecDepth 100000
set_option maxHeartbeats 4000000
def Qed (x_:Qb):Option ((List QB)):=(Qfw x_).bind λt0=>(if (t0 !=0)=true then (some [(QB.mk (-1) (-1) (-1) t0)]) else (Qm (λ(s0:Int×List QB)=>((if (decide (s0.1<(x_.Xd.length:Int)))=true then (idx x_.Xd s0.1).bind λt1=>(sub x_.Xd 0 s0.1).bind λt2=>(Qa1 t2 (λx0=>QfW x0 t1)).bind λt3=>(Qax [(Qaf.mk t3 7)]).bind λt4=>(Qce (-1) s0.1 (-1) t4 s0.2).bind λt5=>(some (.inl ((i64.wrap (s0.1+1)),t5))) else (some (.inr s0.2))):Option ((Int×List QB)⊕((List QB))))) ((0:Int),([]:List QB))).bind λp0=>(Qm (λ(s1:Int×List QB)=>((if (decide (s1.1<(x_.Xa.length:Int)))=true then (idx x_.Xa s1.1).bind λt6=>(Qf9 x_ s1.1).bind λt7=>(Qce s1.1 (-1) (-1) t7 s1.2).bind λt8=>(Qm (λ(s2:Int×List QB)=>((if (decide (s2.1<(t6.Xb.length:Int)))=true then (idx t6.Xb s2.1).bind λt9=>(QbA t6 t9.Xj).bind λt10=>(Qax [(Qaf.mk (decide (t10<s2.1)) 7)]).bind λt11=>((if ((QbE t9.Xi).isSome&&(t11==0))=true then (Qma ((QbR.mk (QbE t9.Xi))).check (Qav.mk x_ s1.1 s2.1 t9)).bind λt12=>(some t12) else (some t11))).bind λp1=>(Qce s1.1 s2.1 (-1) p1 s2.2).bind λt13=>(some (.inl ((i64.wrap (s2.1+1)),t13))) else (some (.inr s2.2))):Option ((Int×List QB)⊕((List QB))))) ((0:Int),t8)).bind λp2=>(some (.inl ((i64.wrap (s1.1+1)),p2))) else (some (.inr s1.2))):Option ((Int×List QB)⊕((List QB))))) ((0:Int),p0)).bind λp3=>(Qm (λ(s3:Int×List QB)=>((if (decide (s3.1<(x_.Xc.length:Int)))=true then (Qga x_ s3.1).bind λt14=>(Qce (-1) (-1) s3.1 t14 s3.2).bind λt15=>(some (.inl ((i64.wrap (s3.1+1)),t15))) else (some (.inr s3.2))):Option ((Int×List QB)⊕((List QB))))) ((0:Int),p3)).bind λp4=>(some p4))
instance QyU:SpcS prog 25 (∀{x_:Qb} {r:(List QB)},Qed x_=some r->FnOk prog 25 [Qc.ty x_] [glo] (λ_=>[]) (λ_=>tsl Q7 r)):=.mk λ{x_ r} h=>by
 unfold Qed at h
 refine Fe func25 ntmps25 λM0 M w0 hpl=>?_
 refine Qa [0] ?_
 refine Qf λ_ k0=>?_
 have⟨_,_,h⟩:=bs h
 refine Qa [2,3] ?_
 refine Qa [1,2,3] ?_
 refine Qn h (λ_ h=>?_) (λ_ h=>?_)
 ·refine Qa [3] ?_
  exact Qo h (·▸Ql hpl)
 refine Qq ?_
 refine k0 ?_
 intro a w H
 refine sr mx [v1 0 (λv0=>box (rVal.cs nilV) v0)] H (λ_=>.m [] [1] rfl rfl rfl (Qe9 Qvf)<|.n) λm0 a w H=>?_
 replace H:St _ _ _ [_,_] [_,_,_] _ _:=(H.pick [0,3]).nil (Q7) 149
 refine Q2 H ?_
 refine Qa [1,2,3] ?_
 refine Qf λK0 k1=>?_
 refine Qa [1,2,3,4,5,6] ?_
 have⟨e0,h0,h⟩:=bs h
 have J0:∀(p0:List QB) (y0:Value),p0=e0->To M w0 119 [(5,QaZ 78 [tv (m0 0)]),(4,tv (m0 0)),(1,tptr (Qc.cs x_))] [own Q7 149 p0 y0,glo,box (rVal.cs y0) (m0 0)] K0:=by
  intro p0 y0 he;subst he;refine k1 <|Qf λK1 k2=>Qa [1,2,3,4,5,6] ?_;have⟨e1,h1,h⟩:=bs h;have J1:∀(p1:List QB) (y1:Value),p1=e1->To M w0 119 [(5,QaZ 78 [tv (m0 0)]),(4,tv (m0 0)),(1,tptr (Qc.cs x_))] [own Q7 149 p1 y1,glo,box (rVal.cs y1) (m0 0)] K1:=by
   intro p1 y1 he;subst he;refine k2 <|Qf λK2 k3=>Qa [2,3,4,5,6] ?_;have⟨e2,h2,h⟩:=bs h;have J2:∀(p2:List QB) (y2:Value),p2=e2->To M w0 119 [(4,tv (m0 0))] [own Q7 149 p2 y2,glo,box (rVal.cs y2) (m0 0)] K2:=by
    intro p2 y2 he;subst he;refine k3 <|Qa [0,1] ?_;refine QY (λ_ _ H=>H.Xk [0,1] rfl) ?_;refine Qam ?_;refine Qad (by intro _ _ H;exact (H.Xn 1 rfl).pick [0]) ?_;obtain rfl:=sj h;exact Ql hpl
   refine Qj <|QaC h2 (λ(s0:Int×List QB) (y3:Value)=>[(107,ti (x_.Xc.length:Int)),(108,ti s0.1),(5,QaZ 78 [tv (m0 0)]),(4,tv (m0 0)),(1,tptr (Qc.cs x_))]) (λ(s0:Int×List QB) (y3:Value)=>[own Q7 149 s0.2 y3,glo,box (rVal.cs y3) (m0 0)]) y1 [0,1,2,3,4] ?_;clear h;intro s0 y3 o K3 h ho k4;refine Qa [0,1,2,3,4,5] ?_;refine Qf λ_ k5=>Qn h (λ_ h=>?_) (λ_ h=>?_)
   ·refine Qq <|k5 <|Qf λ_ k6=>Qj <|Qa [1,3,4,5,6,7] ?_;have⟨_,h3,t0,h4,h⟩:=bs2 h;intro a w H;refine wr mx [v1 5 (λv0=>box (rVal.cs v0) (m0 0)),v1 5 (λv0=>own Q7 149 t0 v0)] H (λ_=>.q 3 rfl<|.q 1 rfl<|.o (Qaa Qbk z7)<|.q 3 rfl<|.o (QN QvA (QoK.ok h3) (.cons (.of z1)<|.cons (.of z0)<|.nil))<|.e [] [2,0] [3,4] rfl rfl rfl rfl (Qf1 Qlt (QeF.ok h4) z4 (.cons (.of .k)<|.cons (.of .k)<|.cons (.of z3)<|.cons (.of z0)<|.nil))<|.n) λm1 a w H=>?_;have H:=H.to [7,8,9,10,11] [_,_,_,_,_] [_,_,_] rfl rfl;refine Qbl H ?_;refine k6 <|QL [1,2,3,4,5] ?_;refine Qad (λ_ _ H=>(H.pick [1,0,2,3,4]).Xk [2,0,1] rfl) ?_;exact QV k4 (m1 5) ((sj h).symm) [0,1,2,3,4]
   refine QO <|QV J2 y3 (ho _ (sj h).symm) [4]
  refine Qj <|QaC h1 (λ(s1:Int×List QB) (y4:Value)=>[(48,tsl Qg x_.Xa),(49,ti (x_.Xa.length:Int)),(50,ti s1.1),(5,QaZ 78 [tv (m0 0)]),(4,tv (m0 0)),(1,tptr (Qc.cs x_))]) (λ(s1:Int×List QB) (y4:Value)=>[own Q7 149 s1.2 y4,glo,box (rVal.cs y4) (m0 0)]) y0 [0,1,2,3,4,5] ?_;clear h;intro s1 y4 o K4 h ho k7;refine Qa [0,1,2,3,4,5,6] ?_;refine Qf λ_ k8=>Qn h (λ_ h=>?_) (λ_ h=>?_)
  ·refine Qq <|k8 <|Qf λK5 k9=>Qj ?_;have⟨t1,_,h⟩:=bs h;refine QJ [v1 3 (λv0=>box (Qg.cs zz1) v0),v1 3 (λv0=>box (Qg.cs t1) v0)] [4,6] [3,4,6,7,8,9,10,11] λm2=>?_;refine QY (λ_ _ H=>(((H.Xk [3,0,1,2] rfl).Xl 0 rfl).add 0 rfl (λ_ _ _ h=>h.2)).pick [0,3,4,5,6,7,8,9]) ?_;have⟨_,h5,t2,h6,h⟩:=bs2 h;intro a w H;refine sr mx [v1 5 (λv0=>box (rVal.cs v0) (m0 0)),v1 5 (λv0=>own Q7 149 t2 v0)] H (λ_=>.q 5 rfl<|.q 2 rfl<|.o (Qaa Qbk z9)<|.q 4 rfl<|.o (QN Qvy (QoJ.ok h5) (.cons (.of z1)<|.cons (.of z0)<|.nil))<|.e [] [2,0] [3,4] rfl rfl rfl rfl (Qf1 Qlt (QeF.ok h6) z4 (.cons (.of z3)<|.cons (.of .k)<|.cons (.of .k)<|.cons (.of z0)<|.nil))<|.n) λm3 a w H=>?_;have H:=H.to [6,7,8,9,10,11,12,13] [_,_,_,_,_,_,_,_] [_,_,_] rfl rfl;refine Q2 H ?_;refine Qa [1,2,3,4,5,6,7,8,9,10,11] ?_;have⟨e3,h7,h⟩:=bs h;have J3:∀(p3:List QB) (y5:Value),p3=e3->To M w0 119 [(48,tsl Qg x_.Xa),(49,ti (x_.Xa.length:Int)),(50,ti s1.1),(5,QaZ 78 [tv (m0 0)]),(4,tv (m0 0)),(1,tptr (Qc.cs x_))] [glo,box (rVal.cs y5) (m0 0),own Q7 149 p3 y5] K5:=by
    intro p3 y5 he;subst he;refine k9 <|QL [1,2,3,4,5,6] ?_;refine Qad (λ_ _ H=>(H.pick [1,2,0,3,4,5]).Xk [2,0,1] rfl) ?_;exact QV k7 y5 ((sj h).symm) [0,1,2,3,4,5]
   refine Qj <|QaC h7 (λ(s2:Int×List QB) (y6:Value)=>[(62,tsl Qe t1.Xb),(63,ti (t1.Xb.length:Int)),(64,ti s2.1),(10,tptr (Qg.cs t1)),(9,ti s1.1),(48,tsl Qg x_.Xa),(49,ti (x_.Xa.length:Int)),(50,ti s1.1),(5,QaZ 78 [tv (m0 0)]),(4,tv (m0 0)),(1,tptr (Qc.cs x_))]) (λ(s2:Int×List QB) (y6:Value)=>[glo,box (rVal.cs y6) (m0 0),own Q7 149 s2.2 y6]) (m3 5) [0,1,2,3,4,5,6,7,8,9,10] ?_;clear h;intro s2 y6 o K6 h ho k10;refine Qa [0,1,2,3,4,5,6,7,8,9,10,11] ?_;refine Qf λ_ k11=>Qn h (λ_ h=>?_) (λ_ h=>?_)
   ·refine Qq <|k11 <|Qf λ_ k12=>Qj ?_;have⟨t3,_,h⟩:=bs h;refine QJ [v1 3 (λv0=>box (Qe.cs zz0) v0),v1 3 (λv0=>box (Qe.cs t3) v0)] [4,6] [3,4,6,7,8,9,10,11,12,13,14,15,16] λm4=>?_;refine QY (λ_ _ H=>(((H.Xk [3,0,1,2] rfl).Xl 0 rfl).add 0 rfl (λ_ _ _ h=>h.2)).pick [0,3,4,5,6,7,8,9,10,11,12,13,14]) ?_;have⟨_,_,t4,_,h⟩:=bs2 h;refine Qa [9,10,11,12,13,14,15,16,17,18,19,20,21,22] ?_;refine Qf λK7 k13=>?_;intro a w H;refine sr mx [v1 7 (λv0=>box (Qcv.cs (QbR.mk none)) v0),v1 7 (λv0=>box (Qcv.cs (QbR.mk (QbE t3.Xi))) v0)] H (λ_=>.u [0] rfl rfl (Qxf (R:=rMapC QhT) (u:=()) Qxp tokM0 rfl)<|.o (Q6 QhH z2)<|.o (Q5 (u:=t3.Xi) tok3 z0 rfl)<|.o (QvR z2 z0)<|.q 0 rfl<|.o (Qag z0 rfl)<|.o (Qag z1 rfl)<|.m [] [3] rfl rfl rfl (QbG (R:=Qcv) (a:=(QbR.mk none)) QnL Qu6)<|.e [] [3] [4] rfl rfl rfl rfl (Qbe (R:=Qcv) (a:=(QbR.mk (QbE t3.Xi))) QnL z0 z2 (leb rfl))<|.o (Qr z1)<|.n) λ_ a w H=>?_;replace H:St _ _ _ [_,_,_,_,_,_,_,_,_,_,_,_,_,_,_,_] [_,_,_] _ _:=((((H.pick [7,8,9,10,11,12,13,14,15,16,17,18,19,20,21,22]).Xk [3,0,1,2] rfl).Xl 0 rfl).add 0 rfl (λ_ _ _ h=>h.2)).pick [0,3,4,5,6,7,8,9,10,11,12,13,14,15,16,17];refine Q2 H ?_;refine Qa [4,5,7,8,9,10,11,12,13,14,15,16,17,18,19,20] ?_;have⟨p4,h8,h⟩:=bs h;have J4:To M w0 119 [(13,ti p4),(11,ti s2.1),(62,tsl Qe t1.Xb),(63,ti (t1.Xb.length:Int)),(64,ti s2.1),(10,tptr (Qg.cs t1)),(9,ti s1.1),(48,tsl Qg x_.Xa),(49,ti (x_.Xa.length:Int)),(50,ti s1.1),(5,QaZ 78 [tv (m0 0)]),(4,tv (m0 0)),(1,tptr (Qc.cs x_))] [glo,box (rVal.cs y6) (m0 0),own Q7 149 s2.2 y6] K7:=by
     refine k13 ?_;have⟨t5,h9,h⟩:=bs h;intro a w H;refine wr mx [v1 4 (λv0=>box (rVal.cs v0) (m0 0)),v1 4 (λv0=>own Q7 149 t5 v0)] H (λ_=>.q 10 rfl<|.q 7 rfl<|.q 3 rfl<|.q 3 rfl<|.e [] [1,2] [3,4] rfl rfl rfl rfl (Qf1 Qlt (QeF.ok h9) z3 (.cons (.of z2)<|.cons (.of z1)<|.cons (.of .k)<|.cons (.of z0)<|.nil))<|.n) λm5 a w H=>?_;have H:=H.to [7,8,9,10,11,12,13,14,15,16,17] [_,_,_,_,_,_,_,_,_,_,_] [_,_,_] rfl rfl;refine Qbl H ?_;refine k12 <|QL [1,2,3,4,5,6,7,8,9,10,11] ?_;exact QV k10 (m5 4) ((sj h).symm) [1,2,0,3,4,5,6,7,8,9,10]
    replace h:=h8;clear h8;refine Qn h (λ_ h=>?_) (λ_ h=>?_)
    ·have⟨t6,h10,h⟩:=bs h;intro a w H;refine wr mx [] H (λ_=>.o (Q6 QqI z1)<|.o (Q5 (u:=((QbR.mk (QbE t3.Xi))).check) Qxu z0 rfl)<|.o (Qaa Qbk z17)<|.q 12 rfl<|.q 8 rfl<|.o (Qaa QaW z8)<|.p (T:=QaE.ty (Qav.mk x_ s1.1 s2.1 t3)) rfl (QaN underlying163 pl163 zv163 zc163 (.cons (R:=Qc) (u:=x_) rfl z3 (leb rfl)<|.cons (R:=rI) (u:=s1.1) rfl z2 (leb rfl)<|.cons (R:=rI) (u:=s2.1) rfl z1 (leb rfl)<|.cons (R:=Qe) (u:=t3) rfl z0 (leb rfl)<|.nil _))<|.o (Qxh (u:=(Qav.mk x_ s1.1 s2.1 t3)) z5 (.cons (.of z0)<|.nil) h10)<|.o (Qr z0)<|.n) λ_ a w H=>?_;have H:=H.to [8,12,13,14,15,16,17,18,19,20,21,22,23] [_,_,_,_,_,_,_,_,_,_,_,_,_] [_,_,_] rfl rfl;refine Qbl H ?_;obtain rfl:=sj h;exact QK J4 [0,1,2,3,4,5,6,7,8,9,10,11,12]
    refine Qq ?_;obtain rfl:=sj h;exact QK J4 [2,4,5,6,7,8,9,10,11,12,13,14,15]
   refine QO <|QV J3 y6 (ho _ (sj h).symm) [6,7,8,9,10,11]
  refine QO <|QV J1 y4 (ho _ (sj h).symm) [4,5,6]
 refine Qj <|QaC h0 (λ(s3:Int×List QB) (y7:Value)=>[(26,tsl QA x_.Xd),(27,ti (x_.Xd.length:Int)),(28,ti s3.1),(5,QaZ 78 [tv (m0 0)]),(4,tv (m0 0)),(1,tptr (Qc.cs x_))]) (λ(s3:Int×List QB) (y7:Value)=>[own Q7 149 s3.2 y7,glo,box (rVal.cs y7) (m0 0)]) nilV [0,1,2,3,4,5] ?_;clear h;intro s3 y7 o K8 h ho k14;refine Qa [0,1,2,3,4,5,6] ?_;refine Qf λ_ k15=>Qn h (λ_ h=>?_) (λ_ h=>?_)
 ·refine Qq <|k15 <|Qf λ_ k16=>Qj ?_;have⟨t7,_,h⟩:=bs h;refine QJ [v1 3 (λv0=>box (QA.cs zz2) v0),v1 3 (λv0=>box (QA.cs t7) v0)] [4,6] [3,4,6,7,8,9,10,11] λm6=>?_;refine QY (λ_ _ H=>(((H.Xk [3,0,1,2] rfl).Xl 0 rfl).add 0 rfl (λ_ _ _ h=>h.2)).pick [0,3,4,5,6,7,8,9]) ?_;have⟨_,_,t8,_,h⟩:=bs2 h;refine Qa [6,8,9,10,11,12,13,14] ?_;have⟨_,h11,t9,h12,h⟩:=bs2 h;intro a w H;refine wr mx [v1 6 (λv0=>box (rVal.cs v0) (m0 0)),v1 6 (λv0=>own Q7 149 t9 v0)] H (λ_=>.q 5 rfl<|.q 2 rfl<|.q 2 rfl<|.p (T:=Qa9.ty (Qaf.mk t8 (7:Int))) rfl (QaN underlying155 pl155 zv155 QtL (.cons (R:=Qau) (u:=t8) rfl z0 (leb rfl)<|.cons (R:=rI) (u:=(7:Int)) rfl .k (leb rfl)<|.nil _))<|.o (Qaq (R:=Qa9) (us:=[(Qaf.mk t8 (7:Int))]) underlying206 QqF (.cons z0<|.nil _) rfl (leb rfl))<|.o (QN Qvx (QnV.ok h11) (.cons (.of z0)<|.nil))<|.e [] [2,0] [3,4] rfl rfl rfl rfl (Qf1 Qlt (QeF.ok h12) z5 (.cons (.of .k)<|.cons (.of z4)<|.cons (.of .k)<|.cons (.of z0)<|.nil))<|.n) λm7 a w H=>?_;have H:=H.to [9,10,11,12,13,14] [_,_,_,_,_,_] [_,_,_] rfl rfl;refine Qbl H ?_;refine k16 <|QL [1,2,3,4,5,6] ?_;refine Qad (λ_ _ H=>(H.pick [1,2,0,3,4,5]).Xk [2,0,1] rfl) ?_;exact QV k14 (m7 6) ((sj h).symm) [0,1,2,3,4,5]
 refine QO <|QV J0 y7 (ho _ (sj h).symm) [4,5,6]
def Qfx (x_:Qb):Option (Int):=(Qed x_).bind λt0=>(if (decide ((t0.length:Int)>0))=true then (idx t0 0).bind λt1=>(some t1.Code) else (some (0:Int)))
instance QyV:SpcS prog 53 (∀{x_:Qb} {r:Int},Qfx x_=some r->FnOk prog 53 [Qc.ty x_] [glo] (λ_=>[]) (λ_=>ti r)):=.mk λ{x_ r} h=>by
 unfold Qfx at h
 refine Fe func53 ntmps53 λM0 M w0 hpl=>?_
 refine Qa [0] ?_
 refine Qf λ_ k0=>?_
 have⟨_,_,h⟩:=bs h
 refine Qa [2] ?_
 refine Qa [2,3] ?_
 refine Qn h (λ_ h=>?_) (λ_ h=>?_)
 ·have⟨_,_,h⟩:=bs h
  refine Qa [4] ?_
  exact Qo h (·▸Ql hpl)
 refine Qq ?_
 refine k0 ?_
 refine Qa [0] ?_
 exact Qo h (·▸Ql hpl)
def Qfy (x_:Qb):Option (Int):=(Qed x_).bind λt0=>(if (decide ((t0.length:Int)>0))=true then (idx t0 0).bind λt1=>(some t1.Code) else (some (0:Int)))
instance QyW:SpcS prog 109 (∀{x_:Qb} {r:Int},Qfy x_=some r->FnOk prog 109 [Qc.ty x_] [glo] (λ_=>[]) (λ_=>ti r)):=.mk λ{x_ r} h=>by
 unfold Qfy at h
 refine Fe func109 ntmps109 λM0 M w0 hpl=>?_
 refine Qa [0] ?_
 refine Qf λ_ k0=>?_
 have⟨_,_,h⟩:=bs h
 refine Qa [2] ?_
 refine Qa [2,3] ?_
 refine Qn h (λ_ h=>?_) (λ_ h=>?_)
 ·have⟨_,_,h⟩:=bs h
  refine Qa [4] ?_
  exact Qo h (·▸Ql hpl)
 refine Qq ?_
 refine k0 ?_
 refine Qa [0] ?_
 exact Qo h (·▸Ql hpl)
def Qc3 (name_:Str) (a_:Int) (b_:Int) (lo_:Int) (hi_:Int) (c0_:(List Qk)) (c1_:(List Str)):Option ((List Qk)×(List Str)):=(rm (c0_.length+[(Qk.mk a_ b_ lo_ true),(Qk.mk a_ b_ hi_ false)].length)).bind λ_=>(cat (name_.length+([32,108,101,97,115,116]:Str).length)).bind λ_=>(cat (name_.length+([32,109,111,115,116]:Str).length)).bind λ_=>(rm (c1_.length+[(name_++([32,108,101,97,115,116]:Str)),(name_++([32,109,111,115,116]:Str))].length)).bind λ_=>(some ((c0_++[(Qk.mk a_ b_ lo_ true),(Qk.mk a_ b_ hi_ false)]),(c1_++[(name_++([32,108,101,97,115,116]:Str)),(name_++([32,109,111,115,116]:Str))])))
instance Qh7:SpcS prog 110 (∀{q5:Value} {vh5:Value} {q6:Value} {vh6:Value} {name_:Str} {a_:Int} {b_:Int} {lo_:Int} {hi_:Int} {c0_:(List Qk)} {c1_:(List Str)} {r:(List Qk)×(List Str)},Qc3 name_ a_ b_ lo_ hi_ c0_ c1_=some r->FnOk prog 110 [tv (.string (sB name_)),ti a_,ti b_,ti lo_,ti hi_,tv q5,tv q6] [box (rVal.cs vh5) q5,own QP 146 c0_ vh5,box (rVal.cs vh6) q6,own rS 9 c1_ vh6] (λv=>[box (rVal.cs (gh v 0)) q5,own QP 146 r.1 (gh v 0),box (rVal.cs (gh v 1)) q6,own rS 9 r.2 (gh v 1)]) (λ_=>ttup [])):=.mk λ{q5 vh5 q6 vh6 name_ a_ b_ lo_ hi_ c0_ c1_ r} h=>by
 unfold Qc3 at h
 refine Fe func110 ntmps110 λM0 M w0 hpl=>?_
 have⟨_,_,h⟩:=bs h
 refine QJ [v1 10 (λv0=>own QP 146 (c0_++[(Qk.mk a_ b_ lo_ true),(Qk.mk a_ b_ hi_ false)]) v0),v1 10 (λv0=>box (rVal.cs v0) q5)] [11,12] [10,11,16,17] λm0=>?_
 have⟨_,_,_,_,_,_,h⟩:=bs3 h
 refine Qal [v1 6 (λv0=>own rS 9 (c1_++[(name_++([32,108,101,97,115,116]:Str)),(name_++([32,109,111,115,116]:Str))]) v0),v1 6 (λv0=>box (rVal.cs v0) q6)] [7,8] [6,7,9,10] λm1=>?_
 obtain rfl:=sj h
 exact QtO (.tuple #[(m0 10),(m1 6)]) [1,0,3,2] hpl
def QdQ (x_:Qb):Option ((List Qk)×(List Str)×Int):=(Qfy x_).bind λt0=>(if (t0 !=0)=true then (some (([]:List Qk),([]:List Str),t0)) else (Qm (λ(s0:Int×List Str×List Qk)=>((if (decide (s0.1<(x_.Xa.length:Int)))=true then (idx x_.Xa s0.1).bind λt1=>(Qc3 t1.Xj s0.1 (-1) t1.Lo t1.Hi s0.2.2 s0.2.1).bind λt2=>(Qm (λ(s1:Int×List Qk×List Str)=>((if (decide (s1.1<(t1.Xb.length:Int)))=true then (idx t1.Xb s1.1).bind λt3=>((if (t3.Xi==1)=true then (cat (t1.Xj.length+([46]:Str).length)).bind λ_=>(cat ((t1.Xj++([46]:Str)).length+t3.Xj.length)).bind λ_=>(QbU x_ t3.Of).bind λt4=>(Qc3 ((t1.Xj++([46]:Str))++t3.Xj) s0.1 t4 t3.Lo t3.Hi s1.2.1 s1.2.2).bind λt5=>(some (t5.1,t5.2)) else (some (s1.2.1,s1.2.2)))).bind λp0=>(some (.inl ((i64.wrap (s1.1+1)),p0.1,p0.2))) else (some (.inr (s1.2.1,s1.2.2)))):Option ((Int×List Qk×List Str)⊕((List Qk×List Str))))) ((0:Int),t2.1,t2.2)).bind λp1=>(some (.inl ((i64.wrap (s0.1+1)),p1.2,p1.1))) else (some (.inr (s0.2.1,s0.2.2)))):Option ((Int×List Str×List Qk)⊕((List Str×List Qk))))) ((0:Int),([]:List Str),([]:List Qk))).bind λp2=>(some (p2.2,p2.1,(0:Int))))
instance Qi8:SpcS prog 54 (∀{x_:Qb} {r:(List Qk)×(List Str)×Int},QdQ x_=some r->FnOk prog 54 [Qc.ty x_] [glo] (λv=>[own rS 9 r.2.1 v]) (λv=>ttup [tsl QP r.1,tv v,ti r.2.2])):=.mk λ{x_ r} h=>by
 unfold QdQ at h
 refine Fe func54 ntmps54 λM0 M w0 hpl=>?_
 refine Qa [0] ?_
 refine Qf λ_ k0=>?_
 have⟨_,_,h⟩:=bs h
 refine Qa [2,3] ?_
 refine Qa [1,2,3] ?_
 refine Qn h (λ_ h=>?_) (λ_ h=>?_)
 ·refine Qa [1,2,3] ?_
  refine QY (λ_ _ H=>H.nil (rS) 9) ?_
  exact Qo h (·▸Qcp (.slice none 0 0) [0] hpl)
 refine Qq ?_
 refine k0 ?_
 intro a w H
 refine sr mx [v1 0 (λv0=>box (rVal.cs nilV) v0)] H (λ_=>.m [] [1] rfl rfl rfl (Qe9 Qvg)<|.n) λm0 a w H=>?_
 replace H:St _ _ _ [_,_] [_,_,_] _ _:=(H.pick [0,3]).nil (QP) 146
 refine Q2 H ?_
 intro a w H
 refine sr mx [v1 0 (λv0=>box (rVal.cs nilV) v0)] H (λ_=>.m [] [3] rfl rfl rfl (Qe9 Qve)<|.n) λm1 a w H=>?_
 replace H:St _ _ _ [_,_,_] [_,_,_,_,_] _ _:=(H.pick [0,1,2]).nil (rS) 9
 refine Q2 H ?_
 refine Qa [1,2,3,4] ?_
 refine Qf λK0 k1=>?_
 refine Qa [1,2,3,4,5,6,7] ?_
 have⟨e0,h0,h⟩:=bs h
 have J0:∀(p0:List Str×List Qk) (y0:Value) (y1:Value),p0=e0->To M w0 67 [(7,tv (m1 0)),(6,tv (m0 0))] [own rS 9 p0.1 y0,own QP 146 p0.2 y1,glo,box (rVal.cs y1) (m0 0),box (rVal.cs y0) (m1 0)] K0:=by
  intro p0 y0 y1 he;subst he;refine k1 <|Qa [0,1,2,3,4] ?_;refine QY (λ_ _ H=>H.Xk [0,1,2] rfl) ?_;refine Qam ?_;refine Qad (by intro _ _ H;exact ((H.Xk [1,0,2] rfl).Xn 2 rfl).pick [0,2,4,5]) ?_;obtain rfl:=sj h;exact Qcp y0 [0] hpl
 refine Qj <|Qi7 h0 (λ(s0:Int×List Str×List Qk) (y2:Value) (y3:Value)=>[(20,tsl Qg x_.Xa),(21,ti (x_.Xa.length:Int)),(22,ti s0.1),(8,QaZ 110 [tv (m0 0),tv (m1 0)]),(7,tv (m1 0)),(6,tv (m0 0)),(1,tptr (Qc.cs x_))]) (λ(s0:Int×List Str×List Qk) (y2:Value) (y3:Value)=>[own rS 9 s0.2.1 y2,own QP 146 s0.2.2 y3,glo,box (rVal.cs y3) (m0 0),box (rVal.cs y2) (m1 0)]) nilV nilV [0,1,2,3,4,5,6] ?_;clear h;intro s0 y2 y3 o K1 h ho k2;refine Qa [0,1,2,3,4,5,6,7] ?_;refine Qf λ_ k3=>Qn h (λ_ h=>?_) (λ_ h=>?_)
 ·refine Qq <|k3 <|Qf λK2 k4=>Qj ?_;have⟨t0,_,h⟩:=bs h;refine QJ [v1 3 (λv0=>box (Qg.cs zz1) v0),v1 3 (λv0=>box (Qg.cs t0) v0)] [4,6] [3,4,6,7,8,9,10,11,12] λm2=>?_;refine QY (λ_ _ H=>(((H.Xk [5,0,1,2,3,4] rfl).Xl 0 rfl).add 0 rfl (λ_ _ _ h=>h.2)).pick [0,3,4,5,6,7,8,9,10]) ?_;have⟨t1,h1,h⟩:=bs h;intro a w H;refine sr mx [v1 8 (λv0=>box (rVal.cs (gh v0 0)) (m0 0)),v1 8 (λv0=>own QP 146 t1.1 (gh v0 0)),v1 8 (λv0=>box (rVal.cs (gh v0 1)) (m1 0)),v1 8 (λv0=>own rS 9 t1.2 (gh v0 1))] H (λ_=>.q 5 rfl<|.o (Q6 Qhc z1)<|.o (Q5 (u:=t0.Xj) tok9 z0 rfl)<|.q 4 rfl<|.o (Q6 Qox z4)<|.o (Q5 (u:=t0.Lo) tok3 z0 rfl)<|.o (Q6 Qoy z6)<|.o (Q5 (u:=t0.Hi) tok3 z0 rfl)<|.e [] [3,1,4,0] [5,6,7,8] rfl rfl rfl rfl (Qf1 QoB (Qh7.ok h1) z7 (.cons (.of z5)<|.cons (.of z4)<|.cons (.of .k)<|.cons (.of z2)<|.cons (.of z0)<|.nil))<|.n) λm3 a w H=>?_;have H:=H.t9_5 [9,10,11,12,13,14,15,16,17];refine Q2 H ?_;refine Qa [1,2,3,4,5,6,7,8,9,10,11,12] ?_;have⟨e1,h2,h⟩:=bs h;have J1:∀(p1:List Qk×List Str) (y4:Value) (y5:Value),p1=e1->To M w0 67 [(20,tsl Qg x_.Xa),(21,ti (x_.Xa.length:Int)),(22,ti s0.1),(8,QaZ 110 [tv (m0 0),tv (m1 0)]),(7,tv (m1 0)),(6,tv (m0 0)),(1,tptr (Qc.cs x_))] [glo,box (rVal.cs y4) (m0 0),own QP 146 p1.1 y4,box (rVal.cs y5) (m1 0),own rS 9 p1.2 y5] K2:=by
   intro p1 y4 y5 he;subst he;refine k4 <|QL [1,2,3,4,5,6,7] ?_;refine Qad (λ_ _ H=>(H.pick [1,2,0,3,4,5,6]).Xk [4,2,0,1,3] rfl) ?_;exact Qem k2 y5 y4 ((sj h).symm) [0,1,2,3,4,5,6]
  refine Qj <|Qi7 h2 (λ(s1:Int×List Qk×List Str) (y6:Value) (y7:Value)=>[(37,tsl Qe t0.Xb),(38,ti (t0.Xb.length:Int)),(39,ti s1.1),(10,tptr (Qg.cs t0)),(9,ti s0.1),(20,tsl Qg x_.Xa),(21,ti (x_.Xa.length:Int)),(22,ti s0.1),(8,QaZ 110 [tv (m0 0),tv (m1 0)]),(7,tv (m1 0)),(6,tv (m0 0)),(1,tptr (Qc.cs x_))]) (λ(s1:Int×List Qk×List Str) (y6:Value) (y7:Value)=>[glo,box (rVal.cs y6) (m0 0),own QP 146 s1.2.1 y6,box (rVal.cs y7) (m1 0),own rS 9 s1.2.2 y7]) (gh (m3 8) 0) (gh (m3 8) 1) [0,1,2,3,4,5,6,7,8,9,10,11] ?_;clear h;intro s1 y6 y7 o K3 h ho k5;refine Qa [0,1,2,3,4,5,6,7,8,9,10,11,12] ?_;refine Qf λ_ k6=>Qn h (λ_ h=>?_) (λ_ h=>?_)
  ·refine Qq <|k6 <|Qf λK4 k7=>Qj ?_;have⟨t2,_,h⟩:=bs h;refine QJ [v1 2 (λv0=>box (Qe.cs zz0) v0),v1 2 (λv0=>box (Qe.cs t2) v0)] [3,4] [2,4,5,6,7,8,9,10,11,12,13,14,15] λm4=>?_;refine QY (λ_ _ H=>(((H.Xk [5,0,1,2,3,4] rfl).Xl 0 rfl).add 0 rfl (λ_ _ _ h=>h.2)).pick [0,3,4,5,6,7,8,9,10,11,12,13,14]) ?_;refine Qa [2,3,4,5,6,7,8,9,10,11,12,13,14,15] ?_;have⟨p2,h3,h⟩:=bs h;have J2:∀(y8:Value) (y9:Value),To M w0 67 [(37,tsl Qe t0.Xb),(38,ti (t0.Xb.length:Int)),(39,ti s1.1),(10,tptr (Qg.cs t0)),(9,ti s0.1),(20,tsl Qg x_.Xa),(21,ti (x_.Xa.length:Int)),(22,ti s0.1),(8,QaZ 110 [tv (m0 0),tv (m1 0)]),(7,tv (m1 0)),(6,tv (m0 0)),(1,tptr (Qc.cs x_))] [glo,box (rVal.cs y8) (m0 0),own QP 146 p2.1 y8,box (rVal.cs y9) (m1 0),own rS 9 p2.2 y9] K4:=by
    intro y8 y9;refine k7 <|QL [1,2,3,4,5,6,7,8,9,10,11,12] ?_;exact Qem k5 y8 y9 ((sj h).symm) [1,2,0,3,4,5,6,7,8,9,10,11]
   replace h:=h3;clear h3;refine Qn h (λ_ h=>?_) (λ_ h=>?_)
   ·have⟨_,h4,_,h5,_,h6,t3,h7,h⟩:=bs4 h;intro a w H;refine wr mx [v1 16 (λv0=>box (rVal.cs (gh v0 0)) (m0 0)),v1 16 (λv0=>own QP 146 t3.1 (gh v0 0)),v1 16 (λv0=>box (rVal.cs (gh v0 1)) (m1 0)),v1 16 (λv0=>own rS 9 t3.2 (gh v0 1))] H (λ_=>.q 10 rfl<|.o (Q6 Qhc z6)<|.o (Q5 (u:=t0.Xj) tok9 z0 rfl)<|.o (Qec z0 .k h4)<|.o (Q6 Qmg z5)<|.o (Q5 (u:=t2.Xj) tok9 z0 rfl)<|.o (Qec z2 z0 h5)<|.q 13 rfl<|.o (Qaa Qbk z21)<|.o (Q6 Qoz z10)<|.o (Q5 (u:=t2.Of) tok9 z0 rfl)<|.o (QN QoC (Qj4.ok h6) (.cons (.of z2)<|.cons (.of z0)<|.nil))<|.o (Q6 Qmh z13)<|.o (Q5 (u:=t2.Lo) tok3 z0 rfl)<|.o (Q6 Qmi z15)<|.o (Q5 (u:=t2.Hi) tok3 z0 rfl)<|.e [] [1,2,3,4] [5,6,7,8] rfl rfl rfl rfl (Qf1 QoB (Qh7.ok h7) z15 (.cons (.of z9)<|.cons (.of z8)<|.cons (.of z4)<|.cons (.of z2)<|.cons (.of z0)<|.nil))<|.n) λm5 a w H=>?_;have H:=H.to [19,20,21,22,23,24,25,26,27,28,29,30] [_,_,_,_,_,_,_,_,_,_,_,_] [_,_,_,_,_] rfl rfl;refine Qbl H ?_;obtain rfl:=sj h;exact QK (J2 (gh (m5 16) 0) (gh (m5 16) 1)) [0,1,2,3,4,5,6,7,8,9,10,11]
   refine Qq ?_;obtain rfl:=sj h;exact QK (J2 y6 y7) [2,3,4,5,6,7,8,9,10,11,12,13]
  refine QO <|Qem J1 y6 y7 (ho _ (sj h).symm) [6,7,8,9,10,11,12]
 refine QO <|Qem J0 y2 y3 (ho _ (sj h).symm) [5,6]
def QdO (k_:Qi) (name_:Str):Option (Int):=(QbA k_ name_).bind λt0=>(some t0)
instance Qk4:Spc2 prog 112 QdO (λk_ name_=>[Qg.ty k_,tv (.string (sB name_))]) ti:=.mk λ{k_ name_ r} h=>by
 unfold QdO at h
 refine Fe func112 ntmps112 λM0 M w0 hpl=>?_
 refine Qa [0,3] ?_
 have⟨_,_,h⟩:=bs h
 refine Qa [3] ?_
 exact Qo h (·▸Ql hpl)
def QfM (x_:Qb):Option ((List QW)):=(Qm (λ(s0:Int×List QW)=>((if (decide (s0.1<(x_.Xa.length:Int)))=true then (idx x_.Xa s0.1).bind λt0=>(Qm (λ(s1:Int×List QW)=>((if (decide (s1.1<(t0.Xb.length:Int)))=true then ((idx t0.Xb s1.1).bind λt1=>(if ((t1.Xi !=2)&&(t1.Xi !=4))=true then (some s1.2) else ((if ((t1.Xi==4)&&(t1.Of !=([]:Str)))=true then (QdO t0 t1.Of).bind λt2=>(some t2) else (some (-1:Int)))).bind λp0=>(cat (t0.Xj.length+([46]:Str).length)).bind λ_=>(cat ((t0.Xj++([46]:Str)).length+t1.Xj.length)).bind λ_=>(cat (((t0.Xj++([46]:Str))++t1.Xj).length+([32,108,111,119]:Str).length)).bind λ_=>(cat (((t0.Xj++([46]:Str))++t1.Xj).length+([32,104,105,103,104]:Str).length)).bind λ_=>(rm (s1.2.length+[(QW.mk s0.1 (((t0.Xj++([46]:Str))++t1.Xj)++([32,108,111,119]:Str)) (QG.mk p0 s1.1 (i64.wrap (0 - t1.Lo)))),(QW.mk s0.1 (((t0.Xj++([46]:Str))++t1.Xj)++([32,104,105,103,104]:Str)) (QG.mk s1.1 p0 t1.Hi))].length)).bind λ_=>(some (s1.2++[(QW.mk s0.1 (((t0.Xj++([46]:Str))++t1.Xj)++([32,108,111,119]:Str)) (QG.mk p0 s1.1 (i64.wrap (0 - t1.Lo)))),(QW.mk s0.1 (((t0.Xj++([46]:Str))++t1.Xj)++([32,104,105,103,104]:Str)) (QG.mk s1.1 p0 t1.Hi))])))).bind λp1=>(some (.inl ((i64.wrap (s1.1+1)),p1))) else (some (.inr s1.2))):Option ((Int×List QW)⊕((List QW))))) ((0:Int),s0.2)).bind λp2=>(some (.inl ((i64.wrap (s0.1+1)),p2))) else (some (.inr s0.2))):Option ((Int×List QW)⊕((List QW))))) ((0:Int),([]:List QW))).bind λp3=>(Qm (λ(s2:Int×List QW)=>((if (decide (s2.1<(x_.Xc.length:Int)))=true then (idx x_.Xc s2.1).bind λt3=>(QbU x_ t3.Xi).bind λt4=>(idx x_.Xa t4).bind λt5=>(cat (([114,117,108,101,58]:Str).length+t3.Xj.length)).bind λ_=>(QdO t5 t3.A).bind λt6=>(QdO t5 t3.B).bind λt7=>(rm (s2.2.length+[(QW.mk t4 (([114,117,108,101,58]:Str)++t3.Xj) (QG.mk t6 t7 t3.N))].length)).bind λ_=>(some (.inl ((i64.wrap (s2.1+1)),(s2.2++[(QW.mk t4 (([114,117,108,101,58]:Str)++t3.Xj) (QG.mk t6 t7 t3.N))])))) else (some (.inr s2.2))):Option ((Int×List QW)⊕((List QW))))) ((0:Int),p3)).bind λp4=>(some p4)
instance QpW:Spc1 prog 55 QfM (λx_=>[Qc.ty x_]) (tsl QX):=.mk λ{x_ r} h=>by
 unfold QfM at h
 refine Fe func55 ntmps55 λM0 M w0 hpl=>?_
 refine Qa [0] ?_
 refine Qa [0,1] ?_
 refine QY (λ_ _ H=>H.nil (QX) 119) ?_
 refine Qf λK0 k0=>?_
 refine Qa [1,2,3,4,5] ?_
 have⟨e0,h0,h⟩:=bs h
 have J0:∀(p0:List QW) (y0:Value),p0=e0->To M w0 117 [(3,tv y0),(1,tptr (Qc.cs x_))] [own QX 119 p0 y0] K0:=by
  intro p0 y0 he;subst he;refine k0 <|Qf λK1 k1=>Qa [1,2,3,4,5] ?_;have⟨e1,h1,h⟩:=bs h;have J1:∀(p1:List QW) (y1:Value),p1=e1->To M w0 117 [(3,tv y1)] [own QX 119 p1 y1] K1:=by
   intro p1 y1 he;subst he;refine k1 <|Qa [0,1,2] ?_;refine Qam ?_;refine Qad (by intro _ _ H;exact (H.Xn 1 rfl).pick [0]) ?_;obtain rfl:=sj h;exact Ql hpl
  refine Qj <|QaC h1 (λ(s0:Int×List QW) (y2:Value)=>[(81,tsl Qt x_.Xc),(82,ti (x_.Xc.length:Int)),(83,ti s0.1),(3,tv y2),(1,tptr (Qc.cs x_))]) (λ(s0:Int×List QW) (y2:Value)=>[own QX 119 s0.2 y2]) y0 [0,1,2,3,4] ?_;clear h;intro s0 y2 o K2 h ho k2;refine Qa [0,1,2,3,4,5] ?_;refine Qf λ_ k3=>Qn h (λ_ h=>?_) (λ_ h=>?_)
  ·refine Qq <|k3 <|Qf λ_ k4=>Qj ?_;have⟨t0,_,h⟩:=bs h;refine QJ [v1 2 (λv0=>box (Qt.cs zz3) v0),v1 2 (λv0=>box (Qt.cs t0) v0)] [3,4] [2,4,5,6,7,8] λm0=>?_;refine QY (λ_ _ H=>(((H.Xk [1,0] rfl).Xl 0 rfl).add 0 rfl (λ_ _ _ h=>h.2)).pick [0,3,4,5,6,7]) ?_;have⟨t1,_,h⟩:=bs h;refine Qa [4,5,6,7,8,9,10] ?_;have⟨t2,_,h⟩:=bs h;refine QJ [v1 5 (λv0=>box (Qg.cs zz1) v0),v1 5 (λv0=>box (Qg.cs t2) v0)] [6,7] [5,6,7,8,9,10,11,12] λm1=>?_;refine QY (λ_ _ H=>(((H.Xk [1,0] rfl).Xl 0 rfl).add 0 rfl (λ_ _ _ h=>h.2)).pick [0,3,4,5,6,7,8,9]) ?_;have⟨_,h2,t3,h3,t4,h4,_,h5,h⟩:=bs4 h;intro a w H;refine wr mx [v1 18 (λv0=>own QX 119 (s0.2++[(QW.mk t1 (([114,117,108,101,58]:Str)++t0.Xj) (QG.mk t3 t4 t0.N))]) v0)] H (λ_=>.q 6 rfl<|.q 2 rfl<|.o (Q6 QkB z4)<|.o (Q5 (u:=t0.Xj) tok9 z0 rfl)<|.o (Qec .k z0 h2)<|.o (Qaa QcX z5)<|.o (Q6 QmS z8)<|.o (Q5 (u:=t0.A) tok9 z0 rfl)<|.o (QN QoD (Qk4.ok h3) (.cons (.of z2)<|.cons (.of z0)<|.nil))<|.o (Qaa QcX z9)<|.o (Q6 QmT z12)<|.o (Q5 (u:=t0.B) tok9 z0 rfl)<|.o (QN QoD (Qk4.ok h4) (.cons (.of z2)<|.cons (.of z0)<|.nil))<|.o (Q6 QmU z15)<|.o (Q5 (u:=t0.N) tok3 z0 rfl)<|.p (T:=Qae.ty (QG.mk t3 t4 t0.N)) rfl (QaN underlying67 pl67 zv67 zc67 (.cons (R:=rI) (u:=t3) rfl z6 (leb rfl)<|.cons (R:=rI) (u:=t4) rfl z2 (leb rfl)<|.cons (R:=rI) (u:=t0.N) rfl z0 (leb rfl)<|.nil _))<|.p (T:=QX.ty (QW.mk t1 (([114,117,108,101,58]:Str)++t0.Xj) (QG.mk t3 t4 t0.N))) rfl (QaN underlying119 Qqa Qp9 QnK (.cons (R:=rI) (u:=t1) rfl z14 (leb rfl)<|.cons (R:=rS) (u:=(([114,117,108,101,58]:Str)++t0.Xj)) rfl z11 (leb rfl)<|.cons (R:=Qae) (u:=(QG.mk t3 t4 t0.N)) rfl z0 (leb rfl)<|.nil _))<|.o (Qaq (R:=QX) (us:=[(QW.mk t1 (([114,117,108,101,58]:Str)++t0.Xj) (QG.mk t3 t4 t0.N))]) ud76 Qj0 (.cons z0<|.nil _) rfl (leb rfl))<|.e [] [0] [1] rfl rfl rfl rfl (QaV (R:=QX) ud76 Qj0 (leb rfl) z17 z0 h5)<|.ud (f:=λv=>tv v) 18 rfl [] rfl rfl (Qr z0)<|.n) λm2 a w H=>?_;have H:=H.to [18,19,23,24,25,26] [_,_,_,_,_,_] [_] rfl rfl;refine Qbl H ?_;refine k4 <|QL [1,2,3,4,5,6] ?_;exact QV k2 (m2 18) ((sj h).symm) [3,4,0,2,5]
  refine QO <|QV J1 y2 (ho _ (sj h).symm) [4]
 refine Qj <|QaC h0 (λ(s1:Int×List QW) (y3:Value)=>[(15,tsl Qg x_.Xa),(16,ti (x_.Xa.length:Int)),(17,ti s1.1),(3,tv y3),(1,tptr (Qc.cs x_))]) (λ(s1:Int×List QW) (y3:Value)=>[own QX 119 s1.2 y3]) (.slice none 0 0) [0,1,2,3,4] ?_;clear h;intro s1 y3 o K3 h ho k5;refine Qa [0,1,2,3,4,5] ?_;refine Qf λ_ k6=>Qn h (λ_ h=>?_) (λ_ h=>?_)
 ·refine Qq <|k6 <|Qf λK4 k7=>Qj ?_;have⟨t5,_,h⟩:=bs h;refine QJ [v1 3 (λv0=>box (Qg.cs zz1) v0),v1 3 (λv0=>box (Qg.cs t5) v0)] [4,6] [3,4,6,7,8,9,10] λm3=>?_;refine QY (λ_ _ H=>(((H.Xk [1,0] rfl).Xl 0 rfl).add 0 rfl (λ_ _ _ h=>h.2)).pick [0,3,4,5,6,7,8]) ?_;refine Qa [1,2,3,4,5,6,7,8,9,10] ?_;have⟨e2,h6,h⟩:=bs h;have J2:∀(p2:List QW) (y4:Value),p2=e2->To M w0 117 [(15,tsl Qg x_.Xa),(16,ti (x_.Xa.length:Int)),(17,ti s1.1),(3,tv y4),(1,tptr (Qc.cs x_))] [own QX 119 p2 y4] K4:=by
   intro p2 y4 he;subst he;refine k7 <|QL [1,2,3,4,5] ?_;exact QV k5 y4 ((sj h).symm) [1,2,0,3,4]
  refine Qj <|QaC h6 (λ(s2:Int×List QW) (y5:Value)=>[(23,tsl Qe t5.Xb),(24,ti (t5.Xb.length:Int)),(25,ti s2.1),(5,tptr (Qg.cs t5)),(4,ti s1.1),(15,tsl Qg x_.Xa),(16,ti (x_.Xa.length:Int)),(17,ti s1.1),(3,tv y5),(1,tptr (Qc.cs x_))]) (λ(s2:Int×List QW) (y5:Value)=>[own QX 119 s2.2 y5]) y3 [0,1,2,3,4,5,6,7,8,9] ?_;clear h;intro s2 y5 o K5 h ho k8;refine Qa [0,1,2,3,4,5,6,7,8,9,10] ?_;refine Qf λ_ k9=>Qn h (λ_ h=>?_) (λ_ h=>?_)
  ·refine Qq <|k9 <|Qf λK6 k10=>?_;have⟨p3,h7,h⟩:=bs h;have J3:∀(y6:Value),To M w0 117 [(23,tsl Qe t5.Xb),(24,ti (t5.Xb.length:Int)),(25,ti s2.1),(5,tptr (Qg.cs t5)),(4,ti s1.1),(15,tsl Qg x_.Xa),(16,ti (x_.Xa.length:Int)),(17,ti s1.1),(3,tv y6),(1,tptr (Qc.cs x_))] [own QX 119 p3 y6] K6:=by
    intro y6;refine k10 <|QL [1,2,3,4,5,6,7,8,9,10] ?_;exact QV k8 y6 ((sj h).symm) [1,2,0,3,4,5,6,7,8,9]
   replace h:=h7;clear h7;refine Qj ?_;have⟨t6,_,h⟩:=bs h;refine QJ [v1 3 (λv0=>box (Qe.cs zz0) v0),v1 3 (λv0=>box (Qe.cs t6) v0)] [4,6] [3,4,6,7,8,9,10,11,12,13,14,15] λm4=>?_;refine QY (λ_ _ H=>(((H.Xk [1,0] rfl).Xl 0 rfl).add 0 rfl (λ_ _ _ h=>h.2)).pick [0,3,4,5,6,7,8,9,10,11,12,13]) ?_;refine tIfs h [7,8,9,10,11,12,13,14,15,16,17,18,19] (λ_ h=>?_) (λ_ h=>?_)
   ·refine QO ?_;obtain rfl:=sj h;exact QK (J3 y5) [3,4,5,6,7,8,9,10,11,12]
   refine Qa [0,2,3,4,5,6,7,8,9,10,11,12,13] ?_;refine Qf λK7 k11=>Qa [7,8,9,10,11,12,13,14,15,16,17,18,19,20] ?_;have⟨p4,h8,h⟩:=bs h;have J4:To M w0 117 [(8,ti p4),(7,tptr (Qe.cs t6)),(6,ti s2.1),(23,tsl Qe t5.Xb),(24,ti (t5.Xb.length:Int)),(25,ti s2.1),(5,tptr (Qg.cs t5)),(4,ti s1.1),(15,tsl Qg x_.Xa),(16,ti (x_.Xa.length:Int)),(17,ti s1.1),(3,tv y5),(1,tptr (Qc.cs x_))] [own QX 119 s2.2 y5] K7:=by
    refine k11 ?_;have⟨_,_,_,_,h⟩:=bs2 h;refine Qa [6,7,8,9,10,11,12,13,14,15,16,17,18,19] ?_;have⟨_,h9,_,h10,_,h11,h⟩:=bs3 h;intro a w H;refine wr mx [v1 21 (λv0=>own QX 119 (s2.2++[(QW.mk s1.1 (((t5.Xj++([46]:Str))++t6.Xj)++([32,108,111,119]:Str)) (QG.mk p4 s2.1 (i64.wrap (0 - t6.Lo)))),(QW.mk s1.1 (((t5.Xj++([46]:Str))++t6.Xj)++([32,104,105,103,104]:Str)) (QG.mk s2.1 p4 t6.Hi))]) v0)] H (λ_=>.q 12 rfl<|.q 9 rfl<|.q 2 rfl<|.o (Qec z0 .k h9)<|.q 5 rfl<|.q 8 rfl<|.o (Q6 Qmh z8)<|.o (Q5 (u:=t6.Lo) tok3 z0 rfl)<|.o (Qnp z0)<|.p (T:=Qae.ty (QG.mk p4 s2.1 (i64.wrap (0 - t6.Lo)))) rfl (QaN underlying67 pl67 zv67 zc67 (.cons (R:=rI) (u:=p4) rfl z4 (leb rfl)<|.cons (R:=rI) (u:=s2.1) rfl z3 (leb rfl)<|.cons (R:=rI) (u:=(i64.wrap (0 - t6.Lo))) rfl z0 (leb rfl)<|.nil _))<|.p (T:=QX.ty (QW.mk s1.1 (((t5.Xj++([46]:Str))++t6.Xj)++([32,108,111,119]:Str)) (QG.mk p4 s2.1 (i64.wrap (0 - t6.Lo))))) rfl (QaN underlying119 Qqa Qp9 QnK (.cons (R:=rI) (u:=s1.1) rfl z8 (leb rfl)<|.cons (R:=rS) (u:=(((t5.Xj++([46]:Str))++t6.Xj)++([32,108,111,119]:Str))) rfl z6 (leb rfl)<|.cons (R:=Qae) (u:=(QG.mk p4 s2.1 (i64.wrap (0 - t6.Lo)))) rfl z0 (leb rfl)<|.nil _))<|.q 19 rfl<|.q 12 rfl<|.o (Qec z0 .k h10)<|.q 17 rfl<|.q 16 rfl<|.o (Q6 Qmi z18)<|.o (Q5 (u:=t6.Hi) tok3 z0 rfl)<|.p (T:=Qae.ty (QG.mk s2.1 p4 t6.Hi)) rfl (QaN underlying67 pl67 zv67 zc67 (.cons (R:=rI) (u:=s2.1) rfl z3 (leb rfl)<|.cons (R:=rI) (u:=p4) rfl z2 (leb rfl)<|.cons (R:=rI) (u:=t6.Hi) rfl z0 (leb rfl)<|.nil _))<|.p (T:=QX.ty (QW.mk s1.1 (((t5.Xj++([46]:Str))++t6.Xj)++([32,104,105,103,104]:Str)) (QG.mk s2.1 p4 t6.Hi))) rfl (QaN underlying119 Qqa Qp9 QnK (.cons (R:=rI) (u:=s1.1) rfl z7 (leb rfl)<|.cons (R:=rS) (u:=(((t5.Xj++([46]:Str))++t6.Xj)++([32,104,105,103,104]:Str))) rfl z5 (leb rfl)<|.cons (R:=Qae) (u:=(QG.mk s2.1 p4 t6.Hi)) rfl z0 (leb rfl)<|.nil _))<|.o (Qaq (R:=QX) (us:=[(QW.mk s1.1 (((t5.Xj++([46]:Str))++t6.Xj)++([32,108,111,119]:Str)) (QG.mk p4 s2.1 (i64.wrap (0 - t6.Lo)))),(QW.mk s1.1 (((t5.Xj++([46]:Str))++t6.Xj)++([32,104,105,103,104]:Str)) (QG.mk s2.1 p4 t6.Hi))]) ud76 Qj0 (.cons z9<|.cons z0<|.nil _) rfl (leb rfl))<|.e [] [0] [1] rfl rfl rfl rfl (QaV (R:=QX) ud76 Qj0 (leb rfl) z20 z0 h11)<|.ud (f:=λv=>tv v) 21 rfl [] rfl rfl (Qr z0)<|.n) λm5 a w H=>?_;have H:=H.to [21,22,27,28,29,30,31,32,33,34,35] [_,_,_,_,_,_,_,_,_,_,_] [_] rfl rfl;refine Qbl H ?_;obtain rfl:=sj h;exact QK (J3 (m5 21)) [2,3,4,5,6,7,8,9,1,10]
   replace h:=h8;clear h8;refine Qn h (λ_ h=>?_) (λ_ h=>?_)
   ·have⟨_,_,h⟩:=bs h;refine QL [4,6,7,8,9,10,11,12,13,14,15,16,17] ?_;obtain rfl:=sj h;exact QK J4 [0,1,2,3,4,5,6,7,8,9,10,11,12]
   refine Qq ?_;obtain rfl:=sj h;exact QK J4 [1,2,3,4,5,6,7,8,9,10,11,12,13]
  refine QO <|QV J2 y5 (ho _ (sj h).symm) [6,7,8,9,10]
 refine QO <|QV J0 y3 (ho _ (sj h).symm) [4,5]
def QfN (x_:Qb):Option ((List Str)×Int):=(Qfx x_).bind λt0=>(if (t0 !=0)=true then (some (([]:List Str),t0)) else (QdQ x_).bind λt1=>(QfM x_).bind λt2=>(Qm (λ(s0:Int×List Str)=>((if (decide (s0.1<(t2.length:Int)))=true then (idx t2 s0.1).bind λt3=>(rm (s0.2.length+[t3.name].length)).bind λ_=>(some (.inl ((i64.wrap (s0.1+1)),(s0.2++[t3.name])))) else (some (.inr s0.2))):Option ((Int×List Str)⊕((List Str))))) ((0:Int),t1.2.1)).bind λp0=>(some (p0,(0:Int))))
instance QpX:SpcS prog 19 (∀{x_:Qb} {r:(List Str)×Int},QfN x_=some r->FnOk prog 19 [Qc.ty x_] [glo] (λ_=>[]) (λ_=>ttup [tsl rS r.1,ti r.2])):=.mk λ{x_ r} h=>by
 unfold QfN at h
 refine Fe func19 ntmps19 λM0 M w0 hpl=>?_
 refine Qa [0] ?_
 refine Qf λ_ k0=>?_
 have⟨_,_,h⟩:=bs h
 refine Qa [2,3] ?_
 refine Qa [1,2,3] ?_
 refine Qn h (λ_ h=>?_) (λ_ h=>?_)
 ·refine Qa [1,2] ?_
  exact Qo h (·▸Ql hpl)
 refine Qq ?_
 refine k0 ?_
 have⟨t0,h0,h⟩:=bs h
 intro a w H
 refine sr mx [v1 1 (λv0=>own rS 9 t0.2.1 v0)] H (λ_=>.o (Qaa Qbk z2)<|.m [0] [1] rfl rfl rfl ((QN QqR (Qi8.ok h0) (.cons (.of z0)<|.nil)).glo)<|.ud (f:=λv=>ttup [tsl QP t0.1,tv v,ti t0.2.2]) 1 rfl [] rfl rfl (Qaj z0)<|.o (Qag z0 rfl)<|.ud (f:=λv=>tv v) 1 rfl [] rfl rfl (Qag z1 rfl)<|.o (Qag z2 rfl)<|.o (Qr z2)<|.ud (f:=λv=>tv v) 1 rfl [] rfl rfl (Qr z2)<|.o (Qr z2)<|.n) λm0 a w H=>?_
 have H:=H.to [4,7,11] [_,_,_] [_,_] rfl rfl
 refine Q2 H ?_
 refine Qf λK0 k1=>?_
 have⟨t1,_,h⟩:=bs h
 refine Qa [1,2,3,4,5] ?_
 have⟨e0,h1,h⟩:=bs h
 have J0:∀(p0:List Str) (y0:Value),p0=e0->To M w0 35 [(6,tv y0)] [glo,own rS 9 p0 y0] K0:=by
  intro p0 y0 he;subst he;refine k1 <|Qa [0,1,2,3] ?_;refine Qam ?_;refine Qad (by intro _ _ H;exact ((H.Xk [1,0] rfl).Xn 1 rfl).pick [0,3]) ?_;obtain rfl:=sj h;exact Ql hpl
 refine Qj <|QaC h1 (λ(s0:Int×List Str) (y1:Value)=>[(22,tsl QX t1),(23,ti (t1.length:Int)),(24,ti s0.1),(6,tv y1)]) (λ(s0:Int×List Str) (y1:Value)=>[glo,own rS 9 s0.2 y1]) (m0 1) [0,1,2,4] ?_;clear h;intro s0 y1 o K1 h ho k2;refine Qa [0,1,2,3,4] ?_;refine Qf λ_ k3=>Qn h (λ_ h=>?_) (λ_ h=>?_)
 ·refine Qq <|k3 <|Qf λ_ k4=>Qj ?_;have⟨t2,_,h⟩:=bs h;refine QJ [v1 2 (λv0=>box (QX.cs (QW.mk (0:Int) ([]:Str) (QG.mk (0:Int) (0:Int) (0:Int)))) v0),v1 2 (λv0=>box (QX.cs t2) v0)] [3,4] [2,4,5,6,7] λm1=>?_;refine QY (λ_ _ H=>(((H.Xk [2,0,1] rfl).Xl 0 rfl).add 0 rfl (λ_ _ _ h=>h.2)).pick [0,3,4,5,6]) ?_;have⟨_,_,h⟩:=bs h;refine Qal [v1 4 (λv0=>own rS 9 (s0.2++[t2.name]) v0)] [5] [4,5,7,8,9] λm2=>?_;refine k4 <|QL [1,2,3,4,5] ?_;exact QV k2 (m2 4) ((sj h).symm) [3,4,0,2]
 refine QO <|QV J0 y1 (ho _ (sj h).symm) [4]
def QfO (x_:Qb):Option (Qa8):=(QdQ x_).bind λt0=>(QfM x_).bind λt1=>(Qm (λ(s0:Int×List QR)=>((if (decide (s0.1<(x_.Xa.length:Int)))=true then (idx x_.Xa s0.1).bind λt2=>(Qm (λ(s1:Int×List QR)=>((if (decide (s1.1<(t2.Xb.length:Int)))=true then (idx t2.Xb s1.1).bind λt3=>((if (t3.Xi==1)=true then (Qep x_ s0.1 s1.1).bind λt4=>(rm (s1.2.length+[(QR.mk s0.1 t4)].length)).bind λ_=>(some (s1.2++[(QR.mk s0.1 t4)])) else (some s1.2))).bind λp0=>(some (.inl ((i64.wrap (s1.1+1)),p0))) else (some (.inr s1.2))):Option ((Int×List QR)⊕((List QR))))) ((0:Int),s0.2)).bind λp1=>(some (.inl ((i64.wrap (s0.1+1)),p1))) else (some (.inr s0.2))):Option ((Int×List QR)⊕((List QR))))) ((0:Int),([]:List QR))).bind λp2=>(some (Qa8.mk x_ t0.1 t1 p2))
instance QpY:SpcS prog 29 (∀{x_:Qb} {r:Qa8},QfO x_=some r->FnOk prog 29 [Qc.ty x_] [glo] (λ_=>[]) (λ_=>tptr (QU.cs r))):=.mk λ{x_ r} h=>by
 unfold QfO at h
 refine Fe func29 ntmps29 λM0 M w0 hpl=>?_
 refine Qa [0] ?_
 have⟨t0,h0,h⟩:=bs h
 intro a w H
 refine sr mx [] H (λ_=>.o (Qaa Qbk z0)<|.u [0] rfl rfl ((QN QqR ((Qi8.ok h0).roE (T':=ttup [tsl QP t0.1,tsl rS t0.2.1,ti t0.2.2]) Ql6) (.cons (.of z0)<|.nil)).glo)<|.q 0 rfl<|.o (Qag z0 rfl)<|.o (Qag z1 rfl)<|.o (Qag z2 rfl)<|.o (Qr z2)<|.o (Qr z2)<|.o (Qr z2)<|.n) λ_ a w H=>?_
 have H:=H.t2_1 [6,9]
 refine Q2 H ?_
 have⟨t1,h1,h⟩:=bs h
 intro a w H
 refine sr mx [v1 5 (λv0=>box (Qc.cs x_++[tsl QP t0.1,tsl QX t1,tvs nilV]) v0)] H (λ_=>.o (Qaa Qbk z1)<|.q 1 rfl<|.o (Qaa Qbk z3)<|.o (QN Qvw (QpW.ok h1) (.cons (.of z0)<|.nil))<|.p (T:=tagg (Qc.cs x_++[tsl QP t0.1,tsl QX t1,tvs nilV])) rfl (QaN underlying79 pl79 zv79 Qxt.1 (.cons (R:=Qc) (u:=x_) rfl z3 (leb rfl)<|.cons (R:=(rSl QP)) (u:=t0.1) rfl z2 (leb rfl)<|.cons (R:=(rSl QX)) (u:=t1) rfl z0 (leb rfl)<|.nil _))<|.m [] [1] rfl rfl rfl (QuE (R:=(rAgg (Qc.cs x_++[tsl QP t0.1,tsl QX t1,tvs nilV]) (QiR (QiQ Qc) (Qx Qb0 (Qx Qb0 (Qx Qdn Qak)))))) (u:=()) z0)<|.ud (f:=λv=>tv v) 5 rfl [] rfl rfl (Qr z0)<|.n) λm0 a w H=>?_
 replace H:St _ _ _ [_,_] [_,_,_] _ _:=(H.pick [6,8]).nil (Qat) 112
 refine Q2 H ?_
 refine Qf λK0 k0=>?_
 refine Qa [1,2,3,4,5] ?_
 have⟨e0,h2,h⟩:=bs h
 have J0:∀(p0:List QR) (y0:Value),p0=e0->To M w0 60 [(6,tv (m0 5))] [own Qat 112 p0 y0,glo,box (Qc.cs x_++[tsl QP t0.1,tsl QX t1,tvs y0]) (m0 5)] K0:=by
  intro p0 y0 he;subst he;refine k0 <|Qa [1] ?_;refine Qam ?_;refine Qad (As'':=[box (QU.cs (Qa8.mk x_ t0.1 t1 p0)) (m0 5),glo]) (λ_ _ H=>((H.pick [0]).Xk [0,2,1] rfl).Xm 6 rfl) ?_;refine Qad (λ_ _ H=>((H.Xl 0 rfl).add 0 rfl (λ_ _ _ h=>h.2)).pick [0]) ?_;obtain rfl:=sj h;exact Ql hpl
 refine Qj <|QaC h2 (λ(s0:Int×List QR) (y1:Value)=>[(24,tsl Qg x_.Xa),(25,ti (x_.Xa.length:Int)),(26,ti s0.1),(6,tv (m0 5)),(1,tptr (Qc.cs x_))]) (λ(s0:Int×List QR) (y1:Value)=>[own Qat 112 s0.2 y1,glo,box (Qc.cs x_++[tsl QP t0.1,tsl QX t1,tvs y1]) (m0 5)]) nilV [0,1,2,3,4] ?_;clear h;intro s0 y1 o K1 h ho k1;refine Qa [0,1,2,3,4,5] ?_;refine Qf λ_ k2=>Qn h (λ_ h=>?_) (λ_ h=>?_)
 ·refine Qq <|k2 <|Qf λK2 k3=>Qj ?_;have⟨t2,_,h⟩:=bs h;refine QJ [v1 3 (λv0=>box (Qg.cs zz1) v0),v1 3 (λv0=>box (Qg.cs t2) v0)] [4,6] [3,4,6,7,8,9,10] λm1=>?_;refine QY (λ_ _ H=>(((H.Xk [3,0,1,2] rfl).Xl 0 rfl).add 0 rfl (λ_ _ _ h=>h.2)).pick [0,3,4,5,6,7,8]) ?_;refine Qa [1,2,3,5,6,7,8,9,10] ?_;have⟨e1,h3,h⟩:=bs h;have J1:∀(p1:List QR) (y2:Value),p1=e1->To M w0 60 [(24,tsl Qg x_.Xa),(25,ti (x_.Xa.length:Int)),(26,ti s0.1),(6,tv (m0 5)),(1,tptr (Qc.cs x_))] [own Qat 112 p1 y2,glo,box (Qc.cs x_++[tsl QP t0.1,tsl QX t1,tvs y2]) (m0 5)] K2:=by
   intro p1 y2 he;subst he;refine k3 <|QL [1,2,3,4,5] ?_;exact QV k1 y2 ((sj h).symm) [1,2,0,3,4]
  refine Qj <|QaC h3 (λ(s1:Int×List QR) (y3:Value)=>[(32,tsl Qe t2.Xb),(33,ti (t2.Xb.length:Int)),(34,ti s1.1),(7,ti s0.1),(24,tsl Qg x_.Xa),(25,ti (x_.Xa.length:Int)),(26,ti s0.1),(6,tv (m0 5)),(1,tptr (Qc.cs x_))]) (λ(s1:Int×List QR) (y3:Value)=>[own Qat 112 s1.2 y3,glo,box (Qc.cs x_++[tsl QP t0.1,tsl QX t1,tvs y3]) (m0 5)]) y1 [0,1,2,3,4,5,6,7,8] ?_;clear h;intro s1 y3 o K3 h ho k4;refine Qa [0,1,2,3,4,5,6,7,8,9] ?_;refine Qf λ_ k5=>Qn h (λ_ h=>?_) (λ_ h=>?_)
  ·refine Qq <|k5 <|Qf λK4 k6=>Qj ?_;have⟨t3,_,h⟩:=bs h;refine QJ [v1 3 (λv0=>box (Qe.cs zz0) v0),v1 3 (λv0=>box (Qe.cs t3) v0)] [4,6] [3,4,6,7,8,9,10,11,12,13,14] λm2=>?_;refine QY (λ_ _ H=>(((H.Xk [3,0,1,2] rfl).Xl 0 rfl).add 0 rfl (λ_ _ _ h=>h.2)).pick [0,3,4,5,6,7,8,9,10,11,12]) ?_;refine Qa [2,4,5,6,7,8,9,10,11,12,13] ?_;have⟨p2,h4,h⟩:=bs h;have J2:∀(y4:Value),To M w0 60 [(32,tsl Qe t2.Xb),(33,ti (t2.Xb.length:Int)),(34,ti s1.1),(7,ti s0.1),(24,tsl Qg x_.Xa),(25,ti (x_.Xa.length:Int)),(26,ti s0.1),(6,tv (m0 5)),(1,tptr (Qc.cs x_))] [glo,own Qat 112 p2 y4,box (Qc.cs x_++[tsl QP t0.1,tsl QX t1,tvs y4]) (m0 5)] K4:=by
    intro y4;refine k6 <|QL [1,2,3,4,5,6,7,8,9] ?_;refine Qad (λ_ _ H=>(H.pick [1,2,0,3,4,5,6,7,8]).Xk [1,0,2] rfl) ?_;exact QV k4 y4 ((sj h).symm) [0,1,2,3,4,5,6,7,8]
   replace h:=h4;clear h4;refine Qn h (λ_ h=>?_) (λ_ h=>?_)
   ·have⟨t4,_,_,_,h⟩:=bs2 h;refine Qal [v1 12 (λv0=>own Qat 112 (s1.2++[(QR.mk s0.1 t4)]) v0),v1 12 (λv0=>box (Qc.cs x_++[tsl QP t0.1,tsl QX t1,tvs v0]) (m0 5))] [13,16] [12,17,18,19,20,21,22,23,24,25] λm3=>?_;obtain rfl:=sj h;exact QK (J2 (m3 12)) [1,2,3,4,5,6,7,8,9]
   refine Qq ?_;obtain rfl:=sj h;refine Qad (λ_ _ H=>(H.pick [2,3,4,5,6,7,8,9,10]).Xk [1,0,2] rfl) ?_;exact QK (J2 y3) [0,1,2,3,4,5,6,7,8]
  refine QO <|QV J1 y3 (ho _ (sj h).symm) [5,6,7,8,9]
 refine QO <|QV J0 y1 (ho _ (sj h).symm) [4]
def Qfz (n_:Int) (l_:(List QG)):Option ((List Qab)×Int):=(if ((decide (n_>10))||(decide ((l_.length:Int)>64)))=true then (some (([]:List Qab),(4:Int))) else (if (decide (n_<0))=true then (some (([]:List Qab),(1:Int))) else (mk (l_.length:Int) zz5).bind λt0=>(Qm (λ(s0:Int×List Qab)=>((if (decide (s0.1<(l_.length:Int)))=true then (idx l_ s0.1).bind λt1=>(if (((((decide ((imin t1.A t1.B)<(-1:Int)))||(decide ((imax t1.A t1.B)>=n_)))||(t1.A==t1.B))||(decide (t1.N<(-2097152:Int))))||(decide (t1.N>2097152)))=true then (some (.inr (.inr ((1:Int),([]:List Qab))))) else (nz (i64.wrap (n_+1))).bind λ_=>(nz (i64.wrap (n_+1))).bind λ_=>(setAt s0.2 s0.1 (Qab.mk (Int.tmod (i64.wrap ((i64.wrap (t1.A+n_))+1)) (i64.wrap (n_+1))) (Int.tmod (i64.wrap ((i64.wrap (t1.B+n_))+1)) (i64.wrap (n_+1))) t1.N)).bind λt2=>(some (.inl ((i64.wrap (s0.1+1)),t2)))) else (some (.inr (.inl s0.2)))):Option ((Int×List Qab)⊕((List Qab)⊕(Int×List Qab))))) ((0:Int),t0)).bind λe0=>(match e0 with | .inl p0=>(some (p0,(0:Int))) | .inr p1=>(some (p1.2,p1.1)))))
instance QnX:SpcS prog 87 (∀{n_:Int} {l_:(List QG)} {r:(List Qab)×Int},Qfz n_ l_=some r->FnOk prog 87 [ti n_,tsl Qae l_] [] (λv=>[own Q4 212 r.1 v]) (λv=>ttup [tv v,ti r.2])):=.mk λ{n_ l_ r} h=>by
 unfold Qfz at h
 refine Fe func87 ntmps87 λM0 M w0 hpl=>?_
 refine Qa [2,3] ?_
 refine tIfs h [6,7,8] (λ_ h=>?_) (λ_ h=>?_)
 ·refine Qa [0,1] ?_
  refine QY (λ_ _ H=>H.nil (Q4) 212) ?_
  exact Qo h (·▸Qcp (.slice none 0 0) [0] hpl)
 refine tIfs h [1,3,4] (λ_ h=>?_) (λ_ h=>?_)
 ·refine Qa [0,1] ?_
  refine QY (λ_ _ H=>H.nil (Q4) 212) ?_
  exact Qo h (·▸Qcp (.slice none 0 0) [0] hpl)
 have⟨t0,_,h⟩:=bs h
 refine QJ [v1 2 (λv0=>own Q4 212 t0 v0)] [3] [2,3,5,6] λm0=>?_
 refine Qf λK0 k0=>?_
 refine Qa [0,1,2,3,4,5] ?_
 have⟨e0,h0,h⟩:=bs h
 have J0:∀(p0:List Qab),(.inl p0)=e0->To M w0 84 [(6,tv (m0 2))] [own Q4 212 p0 (m0 2)] K0:=by
  intro p0 he;subst he;simp only at h;refine k0 <|Qa [0,1,2,3] ?_;exact Qo h (·▸Qcp (m0 2) [0] hpl)
 have J1:∀(p1:Int×List Qab) (y0:Value),(.inr p1)=e0->To M w0 84 [(4,tv y0),(5,ti p1.1)] [own Q4 212 p1.2 y0] (Ret prog f87 M0 [] w0 (λv=>[own Q4 212 r.1 v]) (λv=>ttup [tv v,ti r.2]) .ret):=by
  intro p1 y0 he;subst he;simp only at h;obtain rfl:=sj h;exact Qcp y0 [0] hpl
 refine Qj <|Qai h0 (λ(s0:Int×List Qab)=>[(21,tsl Qae l_),(22,ti (l_.length:Int)),(23,ti s0.1),(6,tv (m0 2)),(0,ti n_)]) (λ(s0:Int×List Qab)=>[own Q4 212 s0.2 (m0 2)]) [0,1,2,4,5] ?_;clear h;intro s0 o K1 h ho k1;refine Qa [0,1,2,3,4,5] ?_;refine Qf λ_ k2=>Qn h (λ_ h=>?_) (λ_ h=>?_)
 ·refine Qq <|k2 <|Qf λ_ k3=>Qj ?_;have⟨t1,_,h⟩:=bs h;refine QJ [v1 3 (λv0=>box (Qae.cs (QG.mk (0:Int) (0:Int) (0:Int))) v0),v1 3 (λv0=>box (Qae.cs t1) v0)] [4,6] [3,4,6,7,8,9,10] λm1=>?_;refine QY (λ_ _ H=>(((H.Xk [1,0] rfl).Xl 0 rfl).add 0 rfl (λ_ _ _ h=>h.2)).pick [0,3,4,5,6,7,8]) ?_;refine tIfs h [31,32,33,34,35,36,37,38] (λ_ h=>?_) (λ_ h=>?_)
  ·refine Qa [0,1,8] ?_;refine QY (λ_ _ H=>H.nil (Q4) 212) ?_;refine Qam ?_;refine Qad (λ_ _ H=>(H.pick [0,1]).Xk [0] rfl) ?_;exact QV J1 (.slice none 0 0) (ho _ (sj h).symm) [0,1]
  have⟨_,_,_,_,t2,_,h⟩:=bs3 h;refine Qal [v0 (own Q4 212 t2 (m0 2))] [23] [0,25,26,27,28,29] λm2=>?_;refine k3 <|QL [1,2,3,4,5,6] ?_;exact Qu k1 ((sj h).symm) [2,3,0,4,5]
 refine QO <|Qu J0 (ho _ (sj h).symm) [4]
def QmG (x_:Int) (y_:Int):Option (Int×Int):=(some ((u32.wrap (ishr .u64 (u64.wrap ((u64.wrap x_) * (u64.wrap y_))) (32:Int))),(u32.wrap (u64.wrap ((u64.wrap x_) * (u64.wrap y_))))))
instance QCh:Spc2 prog 210 QmG (λx_ y_=>[tv (.int .u32 x_),tv (.int .u32 y_)]) (λr=>ttup [tv (.int .u32 r.1),tv (.int .u32 r.2)]):=.mk λ{x_ y_ r} h=>by
 unfold QmG at h
 refine Fe func210 ntmps210 λM0 M w0 hpl=>?_
 refine Qa [2,3] ?_
 intro a w H
 refine sr mx [] H (λ_=>.q 0 rfl<|.o (QcZ Qqc QnO z0)<|.q 3 rfl<|.o (QcZ Qqc QnO z0)<|.o (Qnl z2 z0)<|.o (Qr z0)<|.n) λ_ a w H=>?_
 have H:=H.t1_0 [5]
 refine Q2 H ?_
 intro a w H
 refine sr mx [] H (λ_=>.q 0 rfl<|.o (QbC z0 .k (by decide))<|.o (QcZ QnO Qqc z0)<|.q 3 rfl<|.o (QcZ QnO Qqc z0)<|.o (Qr z2)<|.o (Qr z1)<|.n) λ_ a w H=>?_
 have H:=H.t2_0 [5,6]
 refine Q2 H ?_
 exact Qo h (·▸Ql hpl)
def QgP (x_:Int) (y_:Int):Option (Int×Int):=(some ((u64.wrap ((u64.wrap ((u64.wrap ((ishr .u64 x_ (32:Int)) * (ishr .u64 y_ (32:Int))))+(ishr .u64 (u64.wrap ((u64.wrap ((ishr .u64 x_ (32:Int)) * (iand .u64 y_ (4294967295:Int))))+(ishr .u64 (u64.wrap ((iand .u64 x_ (4294967295:Int)) * (iand .u64 y_ (4294967295:Int)))) (32:Int)))) (32:Int))))+(ishr .u64 (u64.wrap ((iand .u64 (u64.wrap ((u64.wrap ((ishr .u64 x_ (32:Int)) * (iand .u64 y_ (4294967295:Int))))+(ishr .u64 (u64.wrap ((iand .u64 x_ (4294967295:Int)) * (iand .u64 y_ (4294967295:Int)))) (32:Int)))) (4294967295:Int))+(u64.wrap ((iand .u64 x_ (4294967295:Int)) * (ishr .u64 y_ (32:Int)))))) (32:Int)))),(u64.wrap (x_ * y_))))
instance QCi:Spc2 prog 211 QgP (λx_ y_=>[tv (.int .u64 x_),tv (.int .u64 y_)]) (λr=>ttup [tv (.int .u64 r.1),tv (.int .u64 r.2)]):=.mk λ{x_ y_ r} h=>by
 unfold QgP at h
 refine Fe func211 ntmps211 λM0 M w0 hpl=>?_
 refine Qa [2,3] ?_
 intro a w H
 refine sr mx [] H (λ_=>.q 0 rfl<|.o (QcO z0 .k)<|.o (Qr z0)<|.n) λ_ a w H=>?_
 have H:=H.t3_0 [2,3,4]
 refine Q2 H ?_
 intro a w H
 refine sr mx [] H (λ_=>.q 1 rfl<|.o (QbC z0 .k (by decide))<|.o (Qr z0)<|.n) λ_ a w H=>?_
 have H:=H.t4_0 [2,3,4,5]
 refine Q2 H ?_
 intro a w H
 refine sr mx [] H (λ_=>.q 3 rfl<|.o (QcO z0 .k)<|.o (Qr z0)<|.n) λ_ a w H=>?_
 have H:=H.to [2,3,4,5,6] [_,_,_,_,_] [] rfl rfl
 refine Q2 H ?_
 intro a w H
 refine sr mx [] H (λ_=>.q 4 rfl<|.o (QbC z0 .k (by decide))<|.o (Qr z0)<|.n) λ_ a w H=>?_
 have H:=H.to [2,3,4,5,6,7] [_,_,_,_,_,_] [] rfl rfl
 refine Q2 H ?_
 refine Qa [3,4,5,6,7,8,9] ?_
 intro a w H
 refine sr mx [] H (λ_=>.q 3 rfl<|.q 3 rfl<|.o (Qnl z1 z0)<|.q 3 rfl<|.o (QbC z0 .k (by decide))<|.o (QaH z2 z0)<|.o (Qr z0)<|.n) λ_ a w H=>?_
 have H:=H.to [6,8,10,11,12,13] [_,_,_,_,_,_] [] rfl rfl
 refine Q2 H ?_
 intro a w H
 refine sr mx [] H (λ_=>.q 0 rfl<|.o (QcO z0 .k)<|.o (Qr z0)<|.n) λ_ a w H=>?_
 have H:=H.to [2,3,4,5,6,7,8] [_,_,_,_,_,_,_] [] rfl rfl
 refine Q2 H ?_
 intro a w H
 refine sr mx [] H (λ_=>.q 1 rfl<|.o (QbC z0 .k (by decide))<|.o (Qr z0)<|.n) λ_ a w H=>?_
 have H:=H.to [2,3,5,6,7,8,9] [_,_,_,_,_,_,_] [] rfl rfl
 refine Q2 H ?_
 refine Qa [5,6,7,8,10,11] ?_
 intro a w H
 refine sr mx [] H (λ_=>.q 3 rfl<|.q 3 rfl<|.o (Qnl z1 z0)<|.q 4 rfl<|.o (QaH z1 z0)<|.q 5 rfl<|.o (QbC z0 .k (by decide))<|.o (QaH z2 z0)<|.o (Qr z0)<|.n) λ_ a w H=>?_
 have H:=H.t3_0 [8,13,14]
 refine Q2 H ?_
 refine Qa [3,4] ?_
 exact Qo h (·▸Ql hpl)
