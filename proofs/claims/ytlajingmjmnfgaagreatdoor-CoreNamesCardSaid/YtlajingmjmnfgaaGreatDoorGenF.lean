/- The walk. No condition. -/
import Derived.Test.YtlajingmjmnfgaaGreatDoorGenE
set_option linter.all false
open Go.Proofs.Tryz Go.IntKind
namespace Go.Proofs.YtlajingmjmnfgaaGreatDoor
noncomputable section
open Go.Sim
set_option maxRecDepth 100000
set_option maxHeartbeats 4000000
def Qds (x_:Qe):Option ((List Qr)):=(Qec x_).bind λt0=>(if (t0 !=0)=true then (some [(Qr.mk (-1) (-1) (-1) t0)]) else (Qu (λ(s0:Int×List Qr)=>((if (decide (s0.1<(x_.Xd.length:Int)))=true then (idx x_.Xd s0.1).bind λt1=>(sub x_.Xd 0 s0.1).bind λt2=>(QaE t2 (λx0=>Qd2 x0 t1)).bind λt3=>(Qat [(QK.mk t3 7)]).bind λt4=>(QbK (-1) s0.1 (-1) t4 s0.2).bind λt5=>(some (.inl ((i64.wrap (s0.1+1)),t5))) else (some (.inr s0.2))):Option ((Int×List Qr)⊕((List Qr))))) ((0:Int),([]:List Qr))).bind λp0=>(Qu (λ(s1:Int×List Qr)=>((if (decide (s1.1<(x_.Xa.length:Int)))=true then (idx x_.Xa s1.1).bind λt6=>(QeL x_ s1.1).bind λt7=>(QbK s1.1 (-1) (-1) t7 s1.2).bind λt8=>(Qu (λ(s2:Int×List Qr)=>((if (decide (s2.1<(t6.Xb.length:Int)))=true then (idx t6.Xb s2.1).bind λt9=>(Qbr t6 t9.Xj).bind λt10=>(Qat [(QK.mk (decide (t10<s2.1)) 7)]).bind λt11=>((if ((QbA t9.Xi).isSome&&(t11==0))=true then (QlA ((QbY.mk (QbA t9.Xi))).check (QR.mk x_ s1.1 s2.1 t9)).bind λt12=>(some t12) else (some t11))).bind λp1=>(QbK s1.1 s2.1 (-1) p1 s2.2).bind λt13=>(some (.inl ((i64.wrap (s2.1+1)),t13))) else (some (.inr s2.2))):Option ((Int×List Qr)⊕((List Qr))))) ((0:Int),t8)).bind λp2=>(some (.inl ((i64.wrap (s1.1+1)),p2))) else (some (.inr s1.2))):Option ((Int×List Qr)⊕((List Qr))))) ((0:Int),p0)).bind λp3=>(Qu (λ(s3:Int×List Qr)=>((if (decide (s3.1<(x_.Xc.length:Int)))=true then (QeM x_ s3.1).bind λt14=>(QbK (-1) (-1) s3.1 t14 s3.2).bind λt15=>(some (.inl ((i64.wrap (s3.1+1)),t15))) else (some (.inr s3.2))):Option ((Int×List Qr)⊕((List Qr))))) ((0:Int),p3)).bind λp4=>(some p4))
instance Qxj:SpcS prog 25 (∀{x_:Qe} {r:(List Qr)},Qds x_=some r->FnOk prog 25 [Qc.ty x_] [glo] (λ_=>[]) (λ_=>tsl Q7 r)):=.mk λ{x_ r} h=>by
 unfold Qds at h
 refine Fe func25 ntmps25 λM0 M w0 hpl=>?_
 refine Qa [0] ?_
 refine Qi λ_ k0=>?_
 have⟨_,_,h⟩:=bs h
 refine Qa [2,3] ?_
 refine Qa [1,2,3] ?_
 refine Qq h (λ_ h=>?_) (λ_ h=>?_)
 ·refine Qa [3] ?_
  exact Qo h (·▸Ql hpl)
 refine Qt ?_
 refine k0 ?_
 intro a w H
 refine sr mx [v1 0 (λv0=>box (rVal.cs nilV) v0)] H (λ_=>.m [] [1] rfl rfl rfl (QfM Qup)<|.n) λm0 a w H=>?_
 replace H:St _ _ _ [_,_] [_,_,_] _ _:=(H.pick [0,3]).nil (Q7) 149
 refine Q8 H ?_
 refine Qa [1,2,3] ?_
 refine Qi λK0 k1=>?_
 refine Qa [1,2,3,4,5,6] ?_
 have⟨e0,h0,h⟩:=bs h
 have J0:∀(p0:List Qr) (y0:Value),p0=e0->To M w0 119 [(5,QaN 78 [tv (m0 0)]),(4,tv (m0 0)),(1,tptr (Qc.cs x_))] [own Q7 149 p0 y0,glo,box (rVal.cs y0) (m0 0)] K0:=by
  intro p0 y0 he;subst he;refine k1 <|Qi λK1 k2=>Qa [1,2,3,4,5,6] ?_;have⟨e1,h1,h⟩:=bs h;have J1:∀(p1:List Qr) (y1:Value),p1=e1->To M w0 119 [(5,QaN 78 [tv (m0 0)]),(4,tv (m0 0)),(1,tptr (Qc.cs x_))] [own Q7 149 p1 y1,glo,box (rVal.cs y1) (m0 0)] K1:=by
   intro p1 y1 he;subst he;refine k2 <|Qi λK2 k3=>Qa [2,3,4,5,6] ?_;have⟨e2,h2,h⟩:=bs h;have J2:∀(p2:List Qr) (y2:Value),p2=e2->To M w0 119 [(4,tv (m0 0))] [own Q7 149 p2 y2,glo,box (rVal.cs y2) (m0 0)] K2:=by
    intro p2 y2 he;subst he;refine k3 <|Qa [0,1] ?_;refine QN (λ_ _ H=>H.Xk [0,1] rfl) ?_;refine Qap ?_;refine Qae (by intro _ _ H;exact (H.Xn 1 rfl).pick [0]) ?_;obtain rfl:=sj h;exact Ql hpl
   refine Qm <|QaJ h2 (λ(s0:Int×List Qr) (y3:Value)=>[(107,ti (x_.Xc.length:Int)),(108,ti s0.1),(5,QaN 78 [tv (m0 0)]),(4,tv (m0 0)),(1,tptr (Qc.cs x_))]) (λ(s0:Int×List Qr) (y3:Value)=>[own Q7 149 s0.2 y3,glo,box (rVal.cs y3) (m0 0)]) y1 [0,1,2,3,4] ?_;clear h;intro s0 y3 o K3 h ho k4;refine Qa [0,1,2,3,4,5] ?_;refine Qi λ_ k5=>Qq h (λ_ h=>?_) (λ_ h=>?_)
   ·refine Qt <|k5 <|Qi λ_ k6=>Qm <|Qa [1,3,4,5,6,7] ?_;have⟨_,h3,t0,h4,h⟩:=bs2 h;intro a w H;refine wr mx [v1 5 (λv0=>box (rVal.cs v0) (m0 0)),v1 5 (λv0=>own Q7 149 t0 v0)] H (λ_=>.q 3 rfl<|.q 1 rfl<|.o (Q9 QbJ z7)<|.q 3 rfl<|.o (QJ QuI (QoS.ok h3) (.cons (.of z1)<|.cons (.of z0)<|.nil))<|.e [] [2,0] [3,4] rfl rfl rfl rfl (QeI Qmw (Qfn.ok h4) z4 (.cons (.of .k)<|.cons (.of .k)<|.cons (.of z3)<|.cons (.of z0)<|.nil))<|.n) λm1 a w H=>?_;have H:=H.to [7,8,9,10,11] [_,_,_,_,_] [_,_,_] rfl rfl;refine Qcz H ?_;refine k6 <|QL [1,2,3,4,5] ?_;refine Qae (λ_ _ H=>(H.pick [1,0,2,3,4]).Xk [2,0,1] rfl) ?_;exact QX k4 (m1 5) ((sj h).symm) [0,1,2,3,4]
   refine QP <|QX J2 y3 (ho _ (sj h).symm) [4]
  refine Qm <|QaJ h1 (λ(s1:Int×List Qr) (y4:Value)=>[(48,tsl Qg x_.Xa),(49,ti (x_.Xa.length:Int)),(50,ti s1.1),(5,QaN 78 [tv (m0 0)]),(4,tv (m0 0)),(1,tptr (Qc.cs x_))]) (λ(s1:Int×List Qr) (y4:Value)=>[own Q7 149 s1.2 y4,glo,box (rVal.cs y4) (m0 0)]) y0 [0,1,2,3,4,5] ?_;clear h;intro s1 y4 o K4 h ho k7;refine Qa [0,1,2,3,4,5,6] ?_;refine Qi λ_ k8=>Qq h (λ_ h=>?_) (λ_ h=>?_)
  ·refine Qt <|k8 <|Qi λK5 k9=>Qm ?_;have⟨t1,_,h⟩:=bs h;refine QB [v1 3 (λv0=>box (Qg.cs zz1) v0),v1 3 (λv0=>box (Qg.cs t1) v0)] [4,6] [3,4,6,7,8,9,10,11] λm2=>?_;refine QN (λ_ _ H=>(((H.Xk [3,0,1,2] rfl).Xl 0 rfl).add 0 rfl (λ_ _ _ h=>h.2)).pick [0,3,4,5,6,7,8,9]) ?_;have⟨_,h5,t2,h6,h⟩:=bs2 h;intro a w H;refine sr mx [v1 5 (λv0=>box (rVal.cs v0) (m0 0)),v1 5 (λv0=>own Q7 149 t2 v0)] H (λ_=>.q 5 rfl<|.q 2 rfl<|.o (Q9 QbJ z9)<|.q 4 rfl<|.o (QJ QuG (QoR.ok h5) (.cons (.of z1)<|.cons (.of z0)<|.nil))<|.e [] [2,0] [3,4] rfl rfl rfl rfl (QeI Qmw (Qfn.ok h6) z4 (.cons (.of z3)<|.cons (.of .k)<|.cons (.of .k)<|.cons (.of z0)<|.nil))<|.n) λm3 a w H=>?_;have H:=H.to [6,7,8,9,10,11,12,13] [_,_,_,_,_,_,_,_] [_,_,_] rfl rfl;refine Q8 H ?_;refine Qa [1,2,3,4,5,6,7,8,9,10,11] ?_;have⟨e3,h7,h⟩:=bs h;have J3:∀(p3:List Qr) (y5:Value),p3=e3->To M w0 119 [(48,tsl Qg x_.Xa),(49,ti (x_.Xa.length:Int)),(50,ti s1.1),(5,QaN 78 [tv (m0 0)]),(4,tv (m0 0)),(1,tptr (Qc.cs x_))] [glo,box (rVal.cs y5) (m0 0),own Q7 149 p3 y5] K5:=by
    intro p3 y5 he;subst he;refine k9 <|QL [1,2,3,4,5,6] ?_;refine Qae (λ_ _ H=>(H.pick [1,2,0,3,4,5]).Xk [2,0,1] rfl) ?_;exact QX k7 y5 ((sj h).symm) [0,1,2,3,4,5]
   refine Qm <|QaJ h7 (λ(s2:Int×List Qr) (y6:Value)=>[(62,tsl Qd t1.Xb),(63,ti (t1.Xb.length:Int)),(64,ti s2.1),(10,tptr (Qg.cs t1)),(9,ti s1.1),(48,tsl Qg x_.Xa),(49,ti (x_.Xa.length:Int)),(50,ti s1.1),(5,QaN 78 [tv (m0 0)]),(4,tv (m0 0)),(1,tptr (Qc.cs x_))]) (λ(s2:Int×List Qr) (y6:Value)=>[glo,box (rVal.cs y6) (m0 0),own Q7 149 s2.2 y6]) (m3 5) [0,1,2,3,4,5,6,7,8,9,10] ?_;clear h;intro s2 y6 o K6 h ho k10;refine Qa [0,1,2,3,4,5,6,7,8,9,10,11] ?_;refine Qi λ_ k11=>Qq h (λ_ h=>?_) (λ_ h=>?_)
   ·refine Qt <|k11 <|Qi λ_ k12=>Qm ?_;have⟨t3,_,h⟩:=bs h;refine QB [v1 3 (λv0=>box (Qd.cs zz0) v0),v1 3 (λv0=>box (Qd.cs t3) v0)] [4,6] [3,4,6,7,8,9,10,11,12,13,14,15,16] λm4=>?_;refine QN (λ_ _ H=>(((H.Xk [3,0,1,2] rfl).Xl 0 rfl).add 0 rfl (λ_ _ _ h=>h.2)).pick [0,3,4,5,6,7,8,9,10,11,12,13,14]) ?_;have⟨_,_,t4,_,h⟩:=bs2 h;refine Qa [9,10,11,12,13,14,15,16,17,18,19,20,21,22] ?_;refine Qi λK7 k13=>?_;intro a w H;refine sr mx [v1 7 (λv0=>box (QcT.cs (QbY.mk none)) v0),v1 7 (λv0=>box (QcT.cs (QbY.mk (QbA t3.Xi))) v0)] H (λ_=>.u [0] rfl rfl (QvU (R:=rMapC Qi2) (u:=()) Qv6 tokM0 rfl)<|.o (Q4 QhZ z2)<|.o (Q2 (u:=t3.Xi) tok3 z0 rfl)<|.o (QuZ z2 z0)<|.q 0 rfl<|.o (Qam z0 rfl)<|.o (Qam z1 rfl)<|.m [] [3] rfl rfl rfl (Qbo (R:=QcT) (a:=(QbY.mk none)) Qn8 Qug)<|.e [] [3] [4] rfl rfl rfl rfl (QaL (R:=QcT) (a:=(QbY.mk (QbA t3.Xi))) Qn8 z0 z2 (leb rfl))<|.o (Qp z1)<|.n) λ_ a w H=>?_;replace H:St _ _ _ [_,_,_,_,_,_,_,_,_,_,_,_,_,_,_,_] [_,_,_] _ _:=((((H.pick [7,8,9,10,11,12,13,14,15,16,17,18,19,20,21,22]).Xk [3,0,1,2] rfl).Xl 0 rfl).add 0 rfl (λ_ _ _ h=>h.2)).pick [0,3,4,5,6,7,8,9,10,11,12,13,14,15,16,17];refine Q8 H ?_;refine Qa [4,5,7,8,9,10,11,12,13,14,15,16,17,18,19,20] ?_;have⟨p4,h8,h⟩:=bs h;have J4:To M w0 119 [(13,ti p4),(11,ti s2.1),(62,tsl Qd t1.Xb),(63,ti (t1.Xb.length:Int)),(64,ti s2.1),(10,tptr (Qg.cs t1)),(9,ti s1.1),(48,tsl Qg x_.Xa),(49,ti (x_.Xa.length:Int)),(50,ti s1.1),(5,QaN 78 [tv (m0 0)]),(4,tv (m0 0)),(1,tptr (Qc.cs x_))] [glo,box (rVal.cs y6) (m0 0),own Q7 149 s2.2 y6] K7:=by
     refine k13 ?_;have⟨t5,h9,h⟩:=bs h;intro a w H;refine wr mx [v1 4 (λv0=>box (rVal.cs v0) (m0 0)),v1 4 (λv0=>own Q7 149 t5 v0)] H (λ_=>.q 10 rfl<|.q 7 rfl<|.q 3 rfl<|.q 3 rfl<|.e [] [1,2] [3,4] rfl rfl rfl rfl (QeI Qmw (Qfn.ok h9) z3 (.cons (.of z2)<|.cons (.of z1)<|.cons (.of .k)<|.cons (.of z0)<|.nil))<|.n) λm5 a w H=>?_;have H:=H.to [7,8,9,10,11,12,13,14,15,16,17] [_,_,_,_,_,_,_,_,_,_,_] [_,_,_] rfl rfl;refine Qcz H ?_;refine k12 <|QL [1,2,3,4,5,6,7,8,9,10,11] ?_;exact QX k10 (m5 4) ((sj h).symm) [1,2,0,3,4,5,6,7,8,9,10]
    replace h:=h8;clear h8;refine Qq h (λ_ h=>?_) (λ_ h=>?_)
    ·have⟨t6,h10,h⟩:=bs h;intro a w H;refine wr mx [] H (λ_=>.o (Q4 QqD z1)<|.o (Q2 (u:=((QbY.mk (QbA t3.Xi))).check) Qwd z0 rfl)<|.o (Q9 QbJ z17)<|.q 12 rfl<|.q 8 rfl<|.o (Q9 QaY z8)<|.p (T:=QaG.ty (QR.mk x_ s1.1 s2.1 t3)) rfl (QaF underlying163 pl163 zv163 zc163 (.cons (R:=Qc) (u:=x_) rfl z3 (leb rfl)<|.cons (R:=rI) (u:=s1.1) rfl z2 (leb rfl)<|.cons (R:=rI) (u:=s2.1) rfl z1 (leb rfl)<|.cons (R:=Qd) (u:=t3) rfl z0 (leb rfl)<|.nil _))<|.o (QvW (u:=(QR.mk x_ s1.1 s2.1 t3)) z5 (.cons (.of z0)<|.nil) h10)<|.o (Qp z0)<|.n) λ_ a w H=>?_;have H:=H.to [8,12,13,14,15,16,17,18,19,20,21,22,23] [_,_,_,_,_,_,_,_,_,_,_,_,_] [_,_,_] rfl rfl;refine Qcz H ?_;obtain rfl:=sj h;exact QI J4 [0,1,2,3,4,5,6,7,8,9,10,11,12]
    refine Qt ?_;obtain rfl:=sj h;exact QI J4 [2,4,5,6,7,8,9,10,11,12,13,14,15]
   refine QP <|QX J3 y6 (ho _ (sj h).symm) [6,7,8,9,10,11]
  refine QP <|QX J1 y4 (ho _ (sj h).symm) [4,5,6]
 refine Qm <|QaJ h0 (λ(s3:Int×List Qr) (y7:Value)=>[(26,tsl Qn x_.Xd),(27,ti (x_.Xd.length:Int)),(28,ti s3.1),(5,QaN 78 [tv (m0 0)]),(4,tv (m0 0)),(1,tptr (Qc.cs x_))]) (λ(s3:Int×List Qr) (y7:Value)=>[own Q7 149 s3.2 y7,glo,box (rVal.cs y7) (m0 0)]) nilV [0,1,2,3,4,5] ?_;clear h;intro s3 y7 o K8 h ho k14;refine Qa [0,1,2,3,4,5,6] ?_;refine Qi λ_ k15=>Qq h (λ_ h=>?_) (λ_ h=>?_)
 ·refine Qt <|k15 <|Qi λ_ k16=>Qm ?_;have⟨t7,_,h⟩:=bs h;refine QB [v1 3 (λv0=>box (Qn.cs zz2) v0),v1 3 (λv0=>box (Qn.cs t7) v0)] [4,6] [3,4,6,7,8,9,10,11] λm6=>?_;refine QN (λ_ _ H=>(((H.Xk [3,0,1,2] rfl).Xl 0 rfl).add 0 rfl (λ_ _ _ h=>h.2)).pick [0,3,4,5,6,7,8,9]) ?_;have⟨_,_,t8,_,h⟩:=bs2 h;refine Qa [6,8,9,10,11,12,13,14] ?_;have⟨_,h11,t9,h12,h⟩:=bs2 h;intro a w H;refine wr mx [v1 6 (λv0=>box (rVal.cs v0) (m0 0)),v1 6 (λv0=>own Q7 149 t9 v0)] H (λ_=>.q 5 rfl<|.q 2 rfl<|.q 2 rfl<|.p (T:=Qbq.ty (QK.mk t8 (7:Int))) rfl (QaF underlying155 pl155 zv155 QsZ (.cons (R:=Qaq) (u:=t8) rfl z0 (leb rfl)<|.cons (R:=rI) (u:=(7:Int)) rfl .k (leb rfl)<|.nil _))<|.o (Qak (R:=Qbq) (us:=[(QK.mk t8 (7:Int))]) underlying206 QqA (.cons z0<|.nil _) rfl (leb rfl))<|.o (QJ QuF (Qoh.ok h11) (.cons (.of z0)<|.nil))<|.e [] [2,0] [3,4] rfl rfl rfl rfl (QeI Qmw (Qfn.ok h12) z5 (.cons (.of .k)<|.cons (.of z4)<|.cons (.of .k)<|.cons (.of z0)<|.nil))<|.n) λm7 a w H=>?_;have H:=H.to [9,10,11,12,13,14] [_,_,_,_,_,_] [_,_,_] rfl rfl;refine Qcz H ?_;refine k16 <|QL [1,2,3,4,5,6] ?_;refine Qae (λ_ _ H=>(H.pick [1,2,0,3,4,5]).Xk [2,0,1] rfl) ?_;exact QX k14 (m7 6) ((sj h).symm) [0,1,2,3,4,5]
 refine QP <|QX J0 y7 (ho _ (sj h).symm) [4,5,6]
def Qed (x_:Qe):Option (Int):=(Qds x_).bind λt0=>(if (decide ((t0.length:Int)>0))=true then (idx t0 0).bind λt1=>(some t1.Code) else (some (0:Int)))
instance Qxk:SpcS prog 53 (∀{x_:Qe} {r:Int},Qed x_=some r->FnOk prog 53 [Qc.ty x_] [glo] (λ_=>[]) (λ_=>ti r)):=.mk λ{x_ r} h=>by
 unfold Qed at h
 refine Fe func53 ntmps53 λM0 M w0 hpl=>?_
 refine Qa [0] ?_
 refine Qi λ_ k0=>?_
 have⟨_,_,h⟩:=bs h
 refine Qa [2] ?_
 refine Qa [2,3] ?_
 refine Qq h (λ_ h=>?_) (λ_ h=>?_)
 ·have⟨_,_,h⟩:=bs h
  refine Qa [4] ?_
  exact Qo h (·▸Ql hpl)
 refine Qt ?_
 refine k0 ?_
 refine Qa [0] ?_
 exact Qo h (·▸Ql hpl)
def Qee (x_:Qe):Option (Int):=(Qds x_).bind λt0=>(if (decide ((t0.length:Int)>0))=true then (idx t0 0).bind λt1=>(some t1.Code) else (some (0:Int)))
instance Qxl:SpcS prog 109 (∀{x_:Qe} {r:Int},Qee x_=some r->FnOk prog 109 [Qc.ty x_] [glo] (λ_=>[]) (λ_=>ti r)):=.mk λ{x_ r} h=>by
 unfold Qee at h
 refine Fe func109 ntmps109 λM0 M w0 hpl=>?_
 refine Qa [0] ?_
 refine Qi λ_ k0=>?_
 have⟨_,_,h⟩:=bs h
 refine Qa [2] ?_
 refine Qa [2,3] ?_
 refine Qq h (λ_ h=>?_) (λ_ h=>?_)
 ·have⟨_,_,h⟩:=bs h
  refine Qa [4] ?_
  exact Qo h (·▸Ql hpl)
 refine Qt ?_
 refine k0 ?_
 refine Qa [0] ?_
 exact Qo h (·▸Ql hpl)
def Qcf (name_:Str) (a_:Int) (b_:Int) (lo_:Int) (hi_:Int) (c0_:(List Qx)) (c1_:(List Str)):Option ((List Qx)×(List Str)):=(rm (c0_.length+[(Qx.mk a_ b_ lo_ true),(Qx.mk a_ b_ hi_ false)].length)).bind λ_=>(cat (name_.length+([32,108,101,97,115,116]:Str).length)).bind λ_=>(cat (name_.length+([32,109,111,115,116]:Str).length)).bind λ_=>(rm (c1_.length+[(name_++([32,108,101,97,115,116]:Str)),(name_++([32,109,111,115,116]:Str))].length)).bind λ_=>(some ((c0_++[(Qx.mk a_ b_ lo_ true),(Qx.mk a_ b_ hi_ false)]),(c1_++[(name_++([32,108,101,97,115,116]:Str)),(name_++([32,109,111,115,116]:Str))])))
instance Qjm:SpcS prog 110 (∀{q5:Value} {vh5:Value} {q6:Value} {vh6:Value} {name_:Str} {a_:Int} {b_:Int} {lo_:Int} {hi_:Int} {c0_:(List Qx)} {c1_:(List Str)} {r:(List Qx)×(List Str)},Qcf name_ a_ b_ lo_ hi_ c0_ c1_=some r->FnOk prog 110 [tv (.string (sB name_)),ti a_,ti b_,ti lo_,ti hi_,tv q5,tv q6] [box (rVal.cs vh5) q5,own QM 146 c0_ vh5,box (rVal.cs vh6) q6,own rS 9 c1_ vh6] (λv=>[box (rVal.cs (gh v 0)) q5,own QM 146 r.1 (gh v 0),box (rVal.cs (gh v 1)) q6,own rS 9 r.2 (gh v 1)]) (λ_=>ttup [])):=.mk λ{q5 vh5 q6 vh6 name_ a_ b_ lo_ hi_ c0_ c1_ r} h=>by
 unfold Qcf at h
 refine Fe func110 ntmps110 λM0 M w0 hpl=>?_
 have⟨_,_,h⟩:=bs h
 refine QB [v1 10 (λv0=>own QM 146 (c0_++[(Qx.mk a_ b_ lo_ true),(Qx.mk a_ b_ hi_ false)]) v0),v1 10 (λv0=>box (rVal.cs v0) q5)] [11,12] [10,11,16,17] λm0=>?_
 have⟨_,_,_,_,_,_,h⟩:=bs3 h
 refine Qah [v1 6 (λv0=>own rS 9 (c1_++[(name_++([32,108,101,97,115,116]:Str)),(name_++([32,109,111,115,116]:Str))]) v0),v1 6 (λv0=>box (rVal.cs v0) q6)] [7,8] [6,7,9,10] λm1=>?_
 obtain rfl:=sj h
 exact Qs2 (.tuple #[(m0 10),(m1 6)]) [1,0,3,2] hpl
def QcX (x_:Qe):Option ((List Qx)×(List Str)×Int):=(Qee x_).bind λt0=>(if (t0 !=0)=true then (some (([]:List Qx),([]:List Str),t0)) else (Qu (λ(s0:Int×List Str×List Qx)=>((if (decide (s0.1<(x_.Xa.length:Int)))=true then (idx x_.Xa s0.1).bind λt1=>(Qcf t1.Xj s0.1 (-1) t1.Lo t1.Hi s0.2.2 s0.2.1).bind λt2=>(Qu (λ(s1:Int×List Qx×List Str)=>((if (decide (s1.1<(t1.Xb.length:Int)))=true then (idx t1.Xb s1.1).bind λt3=>((if (t3.Xi==1)=true then (cat (t1.Xj.length+([46]:Str).length)).bind λ_=>(cat ((t1.Xj++([46]:Str)).length+t3.Xj.length)).bind λ_=>(QbH x_ t3.Of).bind λt4=>(Qcf ((t1.Xj++([46]:Str))++t3.Xj) s0.1 t4 t3.Lo t3.Hi s1.2.1 s1.2.2).bind λt5=>(some (t5.1,t5.2)) else (some (s1.2.1,s1.2.2)))).bind λp0=>(some (.inl ((i64.wrap (s1.1+1)),p0.1,p0.2))) else (some (.inr (s1.2.1,s1.2.2)))):Option ((Int×List Qx×List Str)⊕((List Qx×List Str))))) ((0:Int),t2.1,t2.2)).bind λp1=>(some (.inl ((i64.wrap (s0.1+1)),p1.2,p1.1))) else (some (.inr (s0.2.1,s0.2.2)))):Option ((Int×List Str×List Qx)⊕((List Str×List Qx))))) ((0:Int),([]:List Str),([]:List Qx))).bind λp2=>(some (p2.2,p2.1,(0:Int))))
instance Qkj:SpcS prog 54 (∀{x_:Qe} {r:(List Qx)×(List Str)×Int},QcX x_=some r->FnOk prog 54 [Qc.ty x_] [glo] (λv=>[own rS 9 r.2.1 v]) (λv=>ttup [tsl QM r.1,tv v,ti r.2.2])):=.mk λ{x_ r} h=>by
 unfold QcX at h
 refine Fe func54 ntmps54 λM0 M w0 hpl=>?_
 refine Qa [0] ?_
 refine Qi λ_ k0=>?_
 have⟨_,_,h⟩:=bs h
 refine Qa [2,3] ?_
 refine Qa [1,2,3] ?_
 refine Qq h (λ_ h=>?_) (λ_ h=>?_)
 ·refine Qa [1,2,3] ?_
  refine QN (λ_ _ H=>H.nil (rS) 9) ?_
  exact Qo h (·▸QbR (.slice none 0 0) [0] hpl)
 refine Qt ?_
 refine k0 ?_
 intro a w H
 refine sr mx [v1 0 (λv0=>box (rVal.cs nilV) v0)] H (λ_=>.m [] [1] rfl rfl rfl (QfM Quq)<|.n) λm0 a w H=>?_
 replace H:St _ _ _ [_,_] [_,_,_] _ _:=(H.pick [0,3]).nil (QM) 146
 refine Q8 H ?_
 intro a w H
 refine sr mx [v1 0 (λv0=>box (rVal.cs nilV) v0)] H (λ_=>.m [] [3] rfl rfl rfl (QfM Quo)<|.n) λm1 a w H=>?_
 replace H:St _ _ _ [_,_,_] [_,_,_,_,_] _ _:=(H.pick [0,1,2]).nil (rS) 9
 refine Q8 H ?_
 refine Qa [1,2,3,4] ?_
 refine Qi λK0 k1=>?_
 refine Qa [1,2,3,4,5,6,7] ?_
 have⟨e0,h0,h⟩:=bs h
 have J0:∀(p0:List Str×List Qx) (y0:Value) (y1:Value),p0=e0->To M w0 67 [(7,tv (m1 0)),(6,tv (m0 0))] [own rS 9 p0.1 y0,own QM 146 p0.2 y1,glo,box (rVal.cs y1) (m0 0),box (rVal.cs y0) (m1 0)] K0:=by
  intro p0 y0 y1 he;subst he;refine k1 <|Qa [0,1,2,3,4] ?_;refine QN (λ_ _ H=>H.Xk [0,1,2] rfl) ?_;refine Qap ?_;refine Qae (by intro _ _ H;exact ((H.Xk [1,0,2] rfl).Xn 2 rfl).pick [0,2,4,5]) ?_;obtain rfl:=sj h;exact QbR y0 [0] hpl
 refine Qm <|Qld h0 (λ(s0:Int×List Str×List Qx) (y2:Value) (y3:Value)=>[(20,tsl Qg x_.Xa),(21,ti (x_.Xa.length:Int)),(22,ti s0.1),(8,QaN 110 [tv (m0 0),tv (m1 0)]),(7,tv (m1 0)),(6,tv (m0 0)),(1,tptr (Qc.cs x_))]) (λ(s0:Int×List Str×List Qx) (y2:Value) (y3:Value)=>[own rS 9 s0.2.1 y2,own QM 146 s0.2.2 y3,glo,box (rVal.cs y3) (m0 0),box (rVal.cs y2) (m1 0)]) nilV nilV [0,1,2,3,4,5,6] ?_;clear h;intro s0 y2 y3 o K1 h ho k2;refine Qa [0,1,2,3,4,5,6,7] ?_;refine Qi λ_ k3=>Qq h (λ_ h=>?_) (λ_ h=>?_)
 ·refine Qt <|k3 <|Qi λK2 k4=>Qm ?_;have⟨t0,_,h⟩:=bs h;refine QB [v1 3 (λv0=>box (Qg.cs zz1) v0),v1 3 (λv0=>box (Qg.cs t0) v0)] [4,6] [3,4,6,7,8,9,10,11,12] λm2=>?_;refine QN (λ_ _ H=>(((H.Xk [5,0,1,2,3,4] rfl).Xl 0 rfl).add 0 rfl (λ_ _ _ h=>h.2)).pick [0,3,4,5,6,7,8,9,10]) ?_;have⟨t1,h1,h⟩:=bs h;intro a w H;refine sr mx [v1 8 (λv0=>box (rVal.cs (gh v0 0)) (m0 0)),v1 8 (λv0=>own QM 146 t1.1 (gh v0 0)),v1 8 (λv0=>box (rVal.cs (gh v0 1)) (m1 0)),v1 8 (λv0=>own rS 9 t1.2 (gh v0 1))] H (λ_=>.q 5 rfl<|.o (Q4 Qfu z1)<|.o (Q2 (u:=t0.Xj) tok9 z0 rfl)<|.q 4 rfl<|.o (Q4 Qm6 z4)<|.o (Q2 (u:=t0.Lo) tok3 z0 rfl)<|.o (Q4 Qm7 z6)<|.o (Q2 (u:=t0.Hi) tok3 z0 rfl)<|.e [] [3,1,4,0] [5,6,7,8] rfl rfl rfl rfl (QeI QoJ (Qjm.ok h1) z7 (.cons (.of z5)<|.cons (.of z4)<|.cons (.of .k)<|.cons (.of z2)<|.cons (.of z0)<|.nil))<|.n) λm3 a w H=>?_;have H:=H.t9_5 [9,10,11,12,13,14,15,16,17];refine Q8 H ?_;refine Qa [1,2,3,4,5,6,7,8,9,10,11,12] ?_;have⟨e1,h2,h⟩:=bs h;have J1:∀(p1:List Qx×List Str) (y4:Value) (y5:Value),p1=e1->To M w0 67 [(20,tsl Qg x_.Xa),(21,ti (x_.Xa.length:Int)),(22,ti s0.1),(8,QaN 110 [tv (m0 0),tv (m1 0)]),(7,tv (m1 0)),(6,tv (m0 0)),(1,tptr (Qc.cs x_))] [glo,box (rVal.cs y4) (m0 0),own QM 146 p1.1 y4,box (rVal.cs y5) (m1 0),own rS 9 p1.2 y5] K2:=by
   intro p1 y4 y5 he;subst he;refine k4 <|QL [1,2,3,4,5,6,7] ?_;refine Qae (λ_ _ H=>(H.pick [1,2,0,3,4,5,6]).Xk [4,2,0,1,3] rfl) ?_;exact Qgh k2 y5 y4 ((sj h).symm) [0,1,2,3,4,5,6]
  refine Qm <|Qld h2 (λ(s1:Int×List Qx×List Str) (y6:Value) (y7:Value)=>[(37,tsl Qd t0.Xb),(38,ti (t0.Xb.length:Int)),(39,ti s1.1),(10,tptr (Qg.cs t0)),(9,ti s0.1),(20,tsl Qg x_.Xa),(21,ti (x_.Xa.length:Int)),(22,ti s0.1),(8,QaN 110 [tv (m0 0),tv (m1 0)]),(7,tv (m1 0)),(6,tv (m0 0)),(1,tptr (Qc.cs x_))]) (λ(s1:Int×List Qx×List Str) (y6:Value) (y7:Value)=>[glo,box (rVal.cs y6) (m0 0),own QM 146 s1.2.1 y6,box (rVal.cs y7) (m1 0),own rS 9 s1.2.2 y7]) (gh (m3 8) 0) (gh (m3 8) 1) [0,1,2,3,4,5,6,7,8,9,10,11] ?_;clear h;intro s1 y6 y7 o K3 h ho k5;refine Qa [0,1,2,3,4,5,6,7,8,9,10,11,12] ?_;refine Qi λ_ k6=>Qq h (λ_ h=>?_) (λ_ h=>?_)
  ·refine Qt <|k6 <|Qi λK4 k7=>Qm ?_;have⟨t2,_,h⟩:=bs h;refine QB [v1 2 (λv0=>box (Qd.cs zz0) v0),v1 2 (λv0=>box (Qd.cs t2) v0)] [3,4] [2,4,5,6,7,8,9,10,11,12,13,14,15] λm4=>?_;refine QN (λ_ _ H=>(((H.Xk [5,0,1,2,3,4] rfl).Xl 0 rfl).add 0 rfl (λ_ _ _ h=>h.2)).pick [0,3,4,5,6,7,8,9,10,11,12,13,14]) ?_;refine Qa [2,3,4,5,6,7,8,9,10,11,12,13,14,15] ?_;have⟨p2,h3,h⟩:=bs h;have J2:∀(y8:Value) (y9:Value),To M w0 67 [(37,tsl Qd t0.Xb),(38,ti (t0.Xb.length:Int)),(39,ti s1.1),(10,tptr (Qg.cs t0)),(9,ti s0.1),(20,tsl Qg x_.Xa),(21,ti (x_.Xa.length:Int)),(22,ti s0.1),(8,QaN 110 [tv (m0 0),tv (m1 0)]),(7,tv (m1 0)),(6,tv (m0 0)),(1,tptr (Qc.cs x_))] [glo,box (rVal.cs y8) (m0 0),own QM 146 p2.1 y8,box (rVal.cs y9) (m1 0),own rS 9 p2.2 y9] K4:=by
    intro y8 y9;refine k7 <|QL [1,2,3,4,5,6,7,8,9,10,11,12] ?_;exact Qgh k5 y8 y9 ((sj h).symm) [1,2,0,3,4,5,6,7,8,9,10,11]
   replace h:=h3;clear h3;refine Qq h (λ_ h=>?_) (λ_ h=>?_)
   ·have⟨_,h4,_,h5,_,h6,t3,h7,h⟩:=bs4 h;intro a w H;refine wr mx [v1 16 (λv0=>box (rVal.cs (gh v0 0)) (m0 0)),v1 16 (λv0=>own QM 146 t3.1 (gh v0 0)),v1 16 (λv0=>box (rVal.cs (gh v0 1)) (m1 0)),v1 16 (λv0=>own rS 9 t3.2 (gh v0 1))] H (λ_=>.q 10 rfl<|.o (Q4 Qfu z6)<|.o (Q2 (u:=t0.Xj) tok9 z0 rfl)<|.o (Qcn z0 .k h4)<|.o (Q4 Qj5 z5)<|.o (Q2 (u:=t2.Xj) tok9 z0 rfl)<|.o (Qcn z2 z0 h5)<|.q 13 rfl<|.o (Q9 QbJ z21)<|.o (Q4 QoH z10)<|.o (Q2 (u:=t2.Of) tok9 z0 rfl)<|.o (QJ QoK (Qle.ok h6) (.cons (.of z2)<|.cons (.of z0)<|.nil))<|.o (Q4 Qj6 z13)<|.o (Q2 (u:=t2.Lo) tok3 z0 rfl)<|.o (Q4 Qj7 z15)<|.o (Q2 (u:=t2.Hi) tok3 z0 rfl)<|.e [] [1,2,3,4] [5,6,7,8] rfl rfl rfl rfl (QeI QoJ (Qjm.ok h7) z15 (.cons (.of z9)<|.cons (.of z8)<|.cons (.of z4)<|.cons (.of z2)<|.cons (.of z0)<|.nil))<|.n) λm5 a w H=>?_;have H:=H.to [19,20,21,22,23,24,25,26,27,28,29,30] [_,_,_,_,_,_,_,_,_,_,_,_] [_,_,_,_,_] rfl rfl;refine Qcz H ?_;obtain rfl:=sj h;exact QI (J2 (gh (m5 16) 0) (gh (m5 16) 1)) [0,1,2,3,4,5,6,7,8,9,10,11]
   refine Qt ?_;obtain rfl:=sj h;exact QI (J2 y6 y7) [2,3,4,5,6,7,8,9,10,11,12,13]
  refine QP <|Qgh J1 y6 y7 (ho _ (sj h).symm) [6,7,8,9,10,11,12]
 refine QP <|Qgh J0 y2 y3 (ho _ (sj h).symm) [5,6]
def Qc4 (k_:Qf) (name_:Str):Option (Int):=(Qbr k_ name_).bind λt0=>(some t0)
instance Ql9:Spc2 prog 112 Qc4 (λk_ name_=>[Qg.ty k_,tv (.string (sB name_))]) ti:=.mk λ{k_ name_ r} h=>by
 unfold Qc4 at h
 refine Fe func112 ntmps112 λM0 M w0 hpl=>?_
 refine Qa [0,3] ?_
 have⟨_,_,h⟩:=bs h
 refine Qa [3] ?_
 exact Qo h (·▸Ql hpl)
def Qez (x_:Qe):Option ((List QE)):=(Qu (λ(s0:Int×List QE)=>((if (decide (s0.1<(x_.Xa.length:Int)))=true then (idx x_.Xa s0.1).bind λt0=>(Qu (λ(s1:Int×List QE)=>((if (decide (s1.1<(t0.Xb.length:Int)))=true then ((idx t0.Xb s1.1).bind λt1=>(if ((t1.Xi !=2)&&(t1.Xi !=4))=true then (some s1.2) else ((if ((t1.Xi==4)&&(t1.Of !=([]:Str)))=true then (Qc4 t0 t1.Of).bind λt2=>(some t2) else (some (-1:Int)))).bind λp0=>(cat (t0.Xj.length+([46]:Str).length)).bind λ_=>(cat ((t0.Xj++([46]:Str)).length+t1.Xj.length)).bind λ_=>(cat (((t0.Xj++([46]:Str))++t1.Xj).length+([32,108,111,119]:Str).length)).bind λ_=>(cat (((t0.Xj++([46]:Str))++t1.Xj).length+([32,104,105,103,104]:Str).length)).bind λ_=>(rm (s1.2.length+[(QE.mk s0.1 (((t0.Xj++([46]:Str))++t1.Xj)++([32,108,111,119]:Str)) (QV.mk p0 s1.1 (i64.wrap (0 - t1.Lo)))),(QE.mk s0.1 (((t0.Xj++([46]:Str))++t1.Xj)++([32,104,105,103,104]:Str)) (QV.mk s1.1 p0 t1.Hi))].length)).bind λ_=>(some (s1.2++[(QE.mk s0.1 (((t0.Xj++([46]:Str))++t1.Xj)++([32,108,111,119]:Str)) (QV.mk p0 s1.1 (i64.wrap (0 - t1.Lo)))),(QE.mk s0.1 (((t0.Xj++([46]:Str))++t1.Xj)++([32,104,105,103,104]:Str)) (QV.mk s1.1 p0 t1.Hi))])))).bind λp1=>(some (.inl ((i64.wrap (s1.1+1)),p1))) else (some (.inr s1.2))):Option ((Int×List QE)⊕((List QE))))) ((0:Int),s0.2)).bind λp2=>(some (.inl ((i64.wrap (s0.1+1)),p2))) else (some (.inr s0.2))):Option ((Int×List QE)⊕((List QE))))) ((0:Int),([]:List QE))).bind λp3=>(Qu (λ(s2:Int×List QE)=>((if (decide (s2.1<(x_.Xc.length:Int)))=true then (idx x_.Xc s2.1).bind λt3=>(QbH x_ t3.Xi).bind λt4=>(idx x_.Xa t4).bind λt5=>(cat (([114,117,108,101,58]:Str).length+t3.Xj.length)).bind λ_=>(Qc4 t5 t3.A).bind λt6=>(Qc4 t5 t3.B).bind λt7=>(rm (s2.2.length+[(QE.mk t4 (([114,117,108,101,58]:Str)++t3.Xj) (QV.mk t6 t7 t3.N))].length)).bind λ_=>(some (.inl ((i64.wrap (s2.1+1)),(s2.2++[(QE.mk t4 (([114,117,108,101,58]:Str)++t3.Xj) (QV.mk t6 t7 t3.N))])))) else (some (.inr s2.2))):Option ((Int×List QE)⊕((List QE))))) ((0:Int),p3)).bind λp4=>(some p4)
instance QpM:Spc1 prog 55 Qez (λx_=>[Qc.ty x_]) (tsl QU):=.mk λ{x_ r} h=>by
 unfold Qez at h
 refine Fe func55 ntmps55 λM0 M w0 hpl=>?_
 refine Qa [0] ?_
 refine Qa [0,1] ?_
 refine QN (λ_ _ H=>H.nil (QU) 119) ?_
 refine Qi λK0 k0=>?_
 refine Qa [1,2,3,4,5] ?_
 have⟨e0,h0,h⟩:=bs h
 have J0:∀(p0:List QE) (y0:Value),p0=e0->To M w0 117 [(3,tv y0),(1,tptr (Qc.cs x_))] [own QU 119 p0 y0] K0:=by
  intro p0 y0 he;subst he;refine k0 <|Qi λK1 k1=>Qa [1,2,3,4,5] ?_;have⟨e1,h1,h⟩:=bs h;have J1:∀(p1:List QE) (y1:Value),p1=e1->To M w0 117 [(3,tv y1)] [own QU 119 p1 y1] K1:=by
   intro p1 y1 he;subst he;refine k1 <|Qa [0,1,2] ?_;refine Qap ?_;refine Qae (by intro _ _ H;exact (H.Xn 1 rfl).pick [0]) ?_;obtain rfl:=sj h;exact Ql hpl
  refine Qm <|QaJ h1 (λ(s0:Int×List QE) (y2:Value)=>[(81,tsl Qk x_.Xc),(82,ti (x_.Xc.length:Int)),(83,ti s0.1),(3,tv y2),(1,tptr (Qc.cs x_))]) (λ(s0:Int×List QE) (y2:Value)=>[own QU 119 s0.2 y2]) y0 [0,1,2,3,4] ?_;clear h;intro s0 y2 o K2 h ho k2;refine Qa [0,1,2,3,4,5] ?_;refine Qi λ_ k3=>Qq h (λ_ h=>?_) (λ_ h=>?_)
  ·refine Qt <|k3 <|Qi λ_ k4=>Qm ?_;have⟨t0,_,h⟩:=bs h;refine QB [v1 2 (λv0=>box (Qk.cs zz3) v0),v1 2 (λv0=>box (Qk.cs t0) v0)] [3,4] [2,4,5,6,7,8] λm0=>?_;refine QN (λ_ _ H=>(((H.Xk [1,0] rfl).Xl 0 rfl).add 0 rfl (λ_ _ _ h=>h.2)).pick [0,3,4,5,6,7]) ?_;have⟨t1,_,h⟩:=bs h;refine Qa [4,5,6,7,8,9,10] ?_;have⟨t2,_,h⟩:=bs h;refine QB [v1 5 (λv0=>box (Qg.cs zz1) v0),v1 5 (λv0=>box (Qg.cs t2) v0)] [6,7] [5,6,7,8,9,10,11,12] λm1=>?_;refine QN (λ_ _ H=>(((H.Xk [1,0] rfl).Xl 0 rfl).add 0 rfl (λ_ _ _ h=>h.2)).pick [0,3,4,5,6,7,8,9]) ?_;have⟨_,h2,t3,h3,t4,h4,_,h5,h⟩:=bs4 h;intro a w H;refine wr mx [v1 18 (λv0=>own QU 119 (s0.2++[(QE.mk t1 (([114,117,108,101,58]:Str)++t0.Xj) (QV.mk t3 t4 t0.N))]) v0)] H (λ_=>.q 6 rfl<|.q 2 rfl<|.o (Q4 Qkh z4)<|.o (Q2 (u:=t0.Xj) tok9 z0 rfl)<|.o (Qcn .k z0 h2)<|.o (Q9 Qda z5)<|.o (Q4 Qnw z8)<|.o (Q2 (u:=t0.A) tok9 z0 rfl)<|.o (QJ QoL (Ql9.ok h3) (.cons (.of z2)<|.cons (.of z0)<|.nil))<|.o (Q9 Qda z9)<|.o (Q4 Qnx z12)<|.o (Q2 (u:=t0.B) tok9 z0 rfl)<|.o (QJ QoL (Ql9.ok h4) (.cons (.of z2)<|.cons (.of z0)<|.nil))<|.o (Q4 Qny z15)<|.o (Q2 (u:=t0.N) tok3 z0 rfl)<|.p (T:=QaA.ty (QV.mk t3 t4 t0.N)) rfl (QaF underlying67 pl67 zv67 zc67 (.cons (R:=rI) (u:=t3) rfl z6 (leb rfl)<|.cons (R:=rI) (u:=t4) rfl z2 (leb rfl)<|.cons (R:=rI) (u:=t0.N) rfl z0 (leb rfl)<|.nil _))<|.p (T:=QU.ty (QE.mk t1 (([114,117,108,101,58]:Str)++t0.Xj) (QV.mk t3 t4 t0.N))) rfl (QaF underlying119 Qp0 QpZ Qn7 (.cons (R:=rI) (u:=t1) rfl z14 (leb rfl)<|.cons (R:=rS) (u:=(([114,117,108,101,58]:Str)++t0.Xj)) rfl z11 (leb rfl)<|.cons (R:=QaA) (u:=(QV.mk t3 t4 t0.N)) rfl z0 (leb rfl)<|.nil _))<|.o (Qak (R:=QU) (us:=[(QE.mk t1 (([114,117,108,101,58]:Str)++t0.Xj) (QV.mk t3 t4 t0.N))]) ud76 Qk9 (.cons z0<|.nil _) rfl (leb rfl))<|.e [] [0] [1] rfl rfl rfl rfl (Qa3 (R:=QU) ud76 Qk9 (leb rfl) z17 z0 h5)<|.ud (f:=λv=>tv v) 18 rfl [] rfl rfl (Qp z0)<|.n) λm2 a w H=>?_;have H:=H.to [18,19,23,24,25,26] [_,_,_,_,_,_] [_] rfl rfl;refine Qcz H ?_;refine k4 <|QL [1,2,3,4,5,6] ?_;exact QX k2 (m2 18) ((sj h).symm) [3,4,0,2,5]
  refine QP <|QX J1 y2 (ho _ (sj h).symm) [4]
 refine Qm <|QaJ h0 (λ(s1:Int×List QE) (y3:Value)=>[(15,tsl Qg x_.Xa),(16,ti (x_.Xa.length:Int)),(17,ti s1.1),(3,tv y3),(1,tptr (Qc.cs x_))]) (λ(s1:Int×List QE) (y3:Value)=>[own QU 119 s1.2 y3]) (.slice none 0 0) [0,1,2,3,4] ?_;clear h;intro s1 y3 o K3 h ho k5;refine Qa [0,1,2,3,4,5] ?_;refine Qi λ_ k6=>Qq h (λ_ h=>?_) (λ_ h=>?_)
 ·refine Qt <|k6 <|Qi λK4 k7=>Qm ?_;have⟨t5,_,h⟩:=bs h;refine QB [v1 3 (λv0=>box (Qg.cs zz1) v0),v1 3 (λv0=>box (Qg.cs t5) v0)] [4,6] [3,4,6,7,8,9,10] λm3=>?_;refine QN (λ_ _ H=>(((H.Xk [1,0] rfl).Xl 0 rfl).add 0 rfl (λ_ _ _ h=>h.2)).pick [0,3,4,5,6,7,8]) ?_;refine Qa [1,2,3,4,5,6,7,8,9,10] ?_;have⟨e2,h6,h⟩:=bs h;have J2:∀(p2:List QE) (y4:Value),p2=e2->To M w0 117 [(15,tsl Qg x_.Xa),(16,ti (x_.Xa.length:Int)),(17,ti s1.1),(3,tv y4),(1,tptr (Qc.cs x_))] [own QU 119 p2 y4] K4:=by
   intro p2 y4 he;subst he;refine k7 <|QL [1,2,3,4,5] ?_;exact QX k5 y4 ((sj h).symm) [1,2,0,3,4]
  refine Qm <|QaJ h6 (λ(s2:Int×List QE) (y5:Value)=>[(23,tsl Qd t5.Xb),(24,ti (t5.Xb.length:Int)),(25,ti s2.1),(5,tptr (Qg.cs t5)),(4,ti s1.1),(15,tsl Qg x_.Xa),(16,ti (x_.Xa.length:Int)),(17,ti s1.1),(3,tv y5),(1,tptr (Qc.cs x_))]) (λ(s2:Int×List QE) (y5:Value)=>[own QU 119 s2.2 y5]) y3 [0,1,2,3,4,5,6,7,8,9] ?_;clear h;intro s2 y5 o K5 h ho k8;refine Qa [0,1,2,3,4,5,6,7,8,9,10] ?_;refine Qi λ_ k9=>Qq h (λ_ h=>?_) (λ_ h=>?_)
  ·refine Qt <|k9 <|Qi λK6 k10=>?_;have⟨p3,h7,h⟩:=bs h;have J3:∀(y6:Value),To M w0 117 [(23,tsl Qd t5.Xb),(24,ti (t5.Xb.length:Int)),(25,ti s2.1),(5,tptr (Qg.cs t5)),(4,ti s1.1),(15,tsl Qg x_.Xa),(16,ti (x_.Xa.length:Int)),(17,ti s1.1),(3,tv y6),(1,tptr (Qc.cs x_))] [own QU 119 p3 y6] K6:=by
    intro y6;refine k10 <|QL [1,2,3,4,5,6,7,8,9,10] ?_;exact QX k8 y6 ((sj h).symm) [1,2,0,3,4,5,6,7,8,9]
   replace h:=h7;clear h7;refine Qm ?_;have⟨t6,_,h⟩:=bs h;refine QB [v1 3 (λv0=>box (Qd.cs zz0) v0),v1 3 (λv0=>box (Qd.cs t6) v0)] [4,6] [3,4,6,7,8,9,10,11,12,13,14,15] λm4=>?_;refine QN (λ_ _ H=>(((H.Xk [1,0] rfl).Xl 0 rfl).add 0 rfl (λ_ _ _ h=>h.2)).pick [0,3,4,5,6,7,8,9,10,11,12,13]) ?_;refine tIfs h [7,8,9,10,11,12,13,14,15,16,17,18,19] (λ_ h=>?_) (λ_ h=>?_)
   ·refine QP ?_;obtain rfl:=sj h;exact QI (J3 y5) [3,4,5,6,7,8,9,10,11,12]
   refine Qa [0,2,3,4,5,6,7,8,9,10,11,12,13] ?_;refine Qi λK7 k11=>Qa [7,8,9,10,11,12,13,14,15,16,17,18,19,20] ?_;have⟨p4,h8,h⟩:=bs h;have J4:To M w0 117 [(8,ti p4),(7,tptr (Qd.cs t6)),(6,ti s2.1),(23,tsl Qd t5.Xb),(24,ti (t5.Xb.length:Int)),(25,ti s2.1),(5,tptr (Qg.cs t5)),(4,ti s1.1),(15,tsl Qg x_.Xa),(16,ti (x_.Xa.length:Int)),(17,ti s1.1),(3,tv y5),(1,tptr (Qc.cs x_))] [own QU 119 s2.2 y5] K7:=by
    refine k11 ?_;have⟨_,_,_,_,h⟩:=bs2 h;refine Qa [6,7,8,9,10,11,12,13,14,15,16,17,18,19] ?_;have⟨_,h9,_,h10,_,h11,h⟩:=bs3 h;intro a w H;refine wr mx [v1 21 (λv0=>own QU 119 (s2.2++[(QE.mk s1.1 (((t5.Xj++([46]:Str))++t6.Xj)++([32,108,111,119]:Str)) (QV.mk p4 s2.1 (i64.wrap (0 - t6.Lo)))),(QE.mk s1.1 (((t5.Xj++([46]:Str))++t6.Xj)++([32,104,105,103,104]:Str)) (QV.mk s2.1 p4 t6.Hi))]) v0)] H (λ_=>.q 12 rfl<|.q 9 rfl<|.q 2 rfl<|.o (Qcn z0 .k h9)<|.q 5 rfl<|.q 8 rfl<|.o (Q4 Qj6 z8)<|.o (Q2 (u:=t6.Lo) tok3 z0 rfl)<|.o (QnP z0)<|.p (T:=QaA.ty (QV.mk p4 s2.1 (i64.wrap (0 - t6.Lo)))) rfl (QaF underlying67 pl67 zv67 zc67 (.cons (R:=rI) (u:=p4) rfl z4 (leb rfl)<|.cons (R:=rI) (u:=s2.1) rfl z3 (leb rfl)<|.cons (R:=rI) (u:=(i64.wrap (0 - t6.Lo))) rfl z0 (leb rfl)<|.nil _))<|.p (T:=QU.ty (QE.mk s1.1 (((t5.Xj++([46]:Str))++t6.Xj)++([32,108,111,119]:Str)) (QV.mk p4 s2.1 (i64.wrap (0 - t6.Lo))))) rfl (QaF underlying119 Qp0 QpZ Qn7 (.cons (R:=rI) (u:=s1.1) rfl z8 (leb rfl)<|.cons (R:=rS) (u:=(((t5.Xj++([46]:Str))++t6.Xj)++([32,108,111,119]:Str))) rfl z6 (leb rfl)<|.cons (R:=QaA) (u:=(QV.mk p4 s2.1 (i64.wrap (0 - t6.Lo)))) rfl z0 (leb rfl)<|.nil _))<|.q 19 rfl<|.q 12 rfl<|.o (Qcn z0 .k h10)<|.q 17 rfl<|.q 16 rfl<|.o (Q4 Qj7 z18)<|.o (Q2 (u:=t6.Hi) tok3 z0 rfl)<|.p (T:=QaA.ty (QV.mk s2.1 p4 t6.Hi)) rfl (QaF underlying67 pl67 zv67 zc67 (.cons (R:=rI) (u:=s2.1) rfl z3 (leb rfl)<|.cons (R:=rI) (u:=p4) rfl z2 (leb rfl)<|.cons (R:=rI) (u:=t6.Hi) rfl z0 (leb rfl)<|.nil _))<|.p (T:=QU.ty (QE.mk s1.1 (((t5.Xj++([46]:Str))++t6.Xj)++([32,104,105,103,104]:Str)) (QV.mk s2.1 p4 t6.Hi))) rfl (QaF underlying119 Qp0 QpZ Qn7 (.cons (R:=rI) (u:=s1.1) rfl z7 (leb rfl)<|.cons (R:=rS) (u:=(((t5.Xj++([46]:Str))++t6.Xj)++([32,104,105,103,104]:Str))) rfl z5 (leb rfl)<|.cons (R:=QaA) (u:=(QV.mk s2.1 p4 t6.Hi)) rfl z0 (leb rfl)<|.nil _))<|.o (Qak (R:=QU) (us:=[(QE.mk s1.1 (((t5.Xj++([46]:Str))++t6.Xj)++([32,108,111,119]:Str)) (QV.mk p4 s2.1 (i64.wrap (0 - t6.Lo)))),(QE.mk s1.1 (((t5.Xj++([46]:Str))++t6.Xj)++([32,104,105,103,104]:Str)) (QV.mk s2.1 p4 t6.Hi))]) ud76 Qk9 (.cons z9<|.cons z0<|.nil _) rfl (leb rfl))<|.e [] [0] [1] rfl rfl rfl rfl (Qa3 (R:=QU) ud76 Qk9 (leb rfl) z20 z0 h11)<|.ud (f:=λv=>tv v) 21 rfl [] rfl rfl (Qp z0)<|.n) λm5 a w H=>?_;have H:=H.to [21,22,27,28,29,30,31,32,33,34,35] [_,_,_,_,_,_,_,_,_,_,_] [_] rfl rfl;refine Qcz H ?_;obtain rfl:=sj h;exact QI (J3 (m5 21)) [2,3,4,5,6,7,8,9,1,10]
   replace h:=h8;clear h8;refine Qq h (λ_ h=>?_) (λ_ h=>?_)
   ·have⟨_,_,h⟩:=bs h;refine QL [4,6,7,8,9,10,11,12,13,14,15,16,17] ?_;obtain rfl:=sj h;exact QI J4 [0,1,2,3,4,5,6,7,8,9,10,11,12]
   refine Qt ?_;obtain rfl:=sj h;exact QI J4 [1,2,3,4,5,6,7,8,9,10,11,12,13]
  refine QP <|QX J2 y5 (ho _ (sj h).symm) [6,7,8,9,10]
 refine QP <|QX J0 y3 (ho _ (sj h).symm) [4,5]
def Qc5 (x_:Qe):Option ((List Str)×Int):=(Qed x_).bind λt0=>(if (t0 !=0)=true then (some (([]:List Str),t0)) else (QcX x_).bind λt1=>(Qez x_).bind λt2=>(Qu (λ(s0:Int×List Str)=>((if (decide (s0.1<(t2.length:Int)))=true then (idx t2 s0.1).bind λt3=>(rm (s0.2.length+[t3.name].length)).bind λ_=>(some (.inl ((i64.wrap (s0.1+1)),(s0.2++[t3.name])))) else (some (.inr s0.2))):Option ((Int×List Str)⊕((List Str))))) ((0:Int),t1.2.1)).bind λp0=>(some (p0,(0:Int))))
instance Qma:SpcS prog 19 (∀{x_:Qe} {r:(List Str)×Int},Qc5 x_=some r->FnOk prog 19 [Qc.ty x_] [glo] (λ_=>[]) (λ_=>ttup [tsl rS r.1,ti r.2])):=.mk λ{x_ r} h=>by
 unfold Qc5 at h
 refine Fe func19 ntmps19 λM0 M w0 hpl=>?_
 refine Qa [0] ?_
 refine Qi λ_ k0=>?_
 have⟨_,_,h⟩:=bs h
 refine Qa [2,3] ?_
 refine Qa [1,2,3] ?_
 refine Qq h (λ_ h=>?_) (λ_ h=>?_)
 ·refine Qa [1,2] ?_
  exact Qo h (·▸Ql hpl)
 refine Qt ?_
 refine k0 ?_
 have⟨t0,h0,h⟩:=bs h
 intro a w H
 refine sr mx [v1 1 (λv0=>own rS 9 t0.2.1 v0)] H (λ_=>.o (Q9 QbJ z2)<|.m [0] [1] rfl rfl rfl ((QJ QqM (Qkj.ok h0) (.cons (.of z0)<|.nil)).glo)<|.ud (f:=λv=>ttup [tsl QM t0.1,tv v,ti t0.2.2]) 1 rfl [] rfl rfl (Qar z0)<|.o (Qam z0 rfl)<|.ud (f:=λv=>tv v) 1 rfl [] rfl rfl (Qam z1 rfl)<|.o (Qam z2 rfl)<|.o (Qp z2)<|.ud (f:=λv=>tv v) 1 rfl [] rfl rfl (Qp z2)<|.o (Qp z2)<|.n) λm0 a w H=>?_
 have H:=H.to [4,7,11] [_,_,_] [_,_] rfl rfl
 refine Q8 H ?_
 refine Qi λK0 k1=>?_
 have⟨t1,_,h⟩:=bs h
 refine Qa [1,2,3,4,5] ?_
 have⟨e0,h1,h⟩:=bs h
 have J0:∀(p0:List Str) (y0:Value),p0=e0->To M w0 35 [(6,tv y0)] [glo,own rS 9 p0 y0] K0:=by
  intro p0 y0 he;subst he;refine k1 <|Qa [0,1,2,3] ?_;refine Qap ?_;refine Qae (by intro _ _ H;exact ((H.Xk [1,0] rfl).Xn 1 rfl).pick [0,3]) ?_;obtain rfl:=sj h;exact Ql hpl
 refine Qm <|QaJ h1 (λ(s0:Int×List Str) (y1:Value)=>[(22,tsl QU t1),(23,ti (t1.length:Int)),(24,ti s0.1),(6,tv y1)]) (λ(s0:Int×List Str) (y1:Value)=>[glo,own rS 9 s0.2 y1]) (m0 1) [0,1,2,4] ?_;clear h;intro s0 y1 o K1 h ho k2;refine Qa [0,1,2,3,4] ?_;refine Qi λ_ k3=>Qq h (λ_ h=>?_) (λ_ h=>?_)
 ·refine Qt <|k3 <|Qi λ_ k4=>Qm ?_;have⟨t2,_,h⟩:=bs h;refine QB [v1 2 (λv0=>box (QU.cs (QE.mk (0:Int) ([]:Str) (QV.mk (0:Int) (0:Int) (0:Int)))) v0),v1 2 (λv0=>box (QU.cs t2) v0)] [3,4] [2,4,5,6,7] λm1=>?_;refine QN (λ_ _ H=>(((H.Xk [2,0,1] rfl).Xl 0 rfl).add 0 rfl (λ_ _ _ h=>h.2)).pick [0,3,4,5,6]) ?_;have⟨_,_,h⟩:=bs h;refine Qah [v1 4 (λv0=>own rS 9 (s0.2++[t2.name]) v0)] [5] [4,5,7,8,9] λm2=>?_;refine k4 <|QL [1,2,3,4,5] ?_;exact QX k2 (m2 4) ((sj h).symm) [3,4,0,2]
 refine QP <|QX J0 y1 (ho _ (sj h).symm) [4]
def QaT (n_:Int) (least_:Int) (most_:Int):Option (Bool):=(some ((decide (n_>=least_))&&(decide (n_<=most_))))
instance Qxm:Spc3 prog 185 QaT (λn_ least_ most_=>[ti n_,ti least_,ti most_]) tb:=.mk λ{n_ least_ most_ r} h=>by
 unfold QaT at h
 refine Fe func185 ntmps185 λM0 M w0 hpl=>?_
 refine Qa [1,2,3] ?_
 refine Qa [8] ?_
 exact Qo h (·▸Ql hpl)
def QeX (c_:Int):Option (Bool):=(some ((decide (c_>=97))&&(decide (c_<=122))))
instance Qxn:Spc1 prog 226 QeX (λc_=>[tv (.int .u8 c_)]) tb:=.mk λ{c_ r} h=>by
 unfold QeX at h
 refine Fe func226 ntmps226 λM0 M w0 hpl=>?_
 refine Qa [1] ?_
 refine Qa [6] ?_
 exact Qo h (·▸Ql hpl)
def Qih (c_:Int):Option (Bool):=(some ((decide (c_>=48))&&(decide (c_<=57))))
instance QzA:Spc1 prog 227 Qih (λc_=>[tv (.int .u8 c_)]) tb:=.mk λ{c_ r} h=>by
 unfold Qih at h
 refine Fe func227 ntmps227 λM0 M w0 hpl=>?_
 refine Qa [1] ?_
 refine Qa [6] ?_
 exact Qo h (·▸Ql hpl)
def Qbe (s_:Str):Option (Bool):=(opt (((decide ((s_.length:Int)<1))||(decide ((s_.length:Int)>12)))==false) (idx s_ 0) default).bind λt0=>(opt (((decide ((s_.length:Int)<1))||(decide ((s_.length:Int)>12)))==false) (QeX (t0.toNat:Int)) default).bind λt1=>(if (((decide ((s_.length:Int)<1))||(decide ((s_.length:Int)>12)))||(!t1))=true then (some false) else (Qu (λ(s0:Int)=>((if (decide (s0<(s_.length:Int)))=true then (idx s_ s0).bind λt2=>(QeX (t2.toNat:Int)).bind λt3=>(opt ((!t3)==true) (idx s_ s0) default).bind λt4=>(opt ((!t3)==true) (Qih (t4.toNat:Int)) default).bind λt5=>(if ((!t3)&&(!t5))=true then (some (.inr (.inr false))) else (some (.inl (i64.wrap (s0+1))))) else (some (.inr (.inl ())))):Option ((Int)⊕((Unit)⊕(Bool))))) (0:Int)).bind λe0=>(match e0 with | .inl _=>(some true) | .inr p0=>(some p0)))
instance Qxo:Spc1 prog 213 Qbe (λs_=>[tv (.string (sB s_))]) tb:=.mk λ{s_ r} h=>by
 unfold Qbe at h
 refine Fe func213 ntmps213 λM0 M w0 hpl=>?_
 refine Qa [1] ?_
 have⟨_,_,_,_,h⟩:=bs2 h
 refine tIfs h [13,14] (λ_ h=>?_) (λ_ h=>?_)
 ·refine Qa [0] ?_
  exact Qo h (·▸Ql hpl)
 refine Qi λK0 k0=>?_
 refine Qa [0,2] ?_
 have⟨e0,h0,h⟩:=bs h
 have J0:∀(p0:Unit),(.inl p0)=e0->To M w0 36 [] [] K0:=by
  intro p0 he;subst he;simp only at h;refine k0 <|Qa [0] ?_;exact Qo h (·▸Ql hpl)
 have J1:∀(p1:Bool),(.inr p1)=e0->To M w0 36 [(2,tb p1)] [] (Ret prog f213 M0 [] w0 (λ_=>[]) (λ_=>tb r) .ret):=by
  intro p1 he;subst he;simp only at h;obtain rfl:=sj h;exact Ql hpl
 refine Qm <|Qan h0 (λ(s0:Int)=>[(3,ti s0),(0,tv (.string (sB s_)))]) (λ(s0:Int)=>[]) [0,1] ?_;clear h;intro s0 o K1 h ho k1;refine Qi λ_ k2=>Qa [3,4,5] ?_;refine Qq h (λ_ h=>?_) (λ_ h=>?_)
 ·refine Qt <|k2 <|Qi λ_ k3=>Qm ?_;have⟨_,_,_,_,_,_,_,_,h⟩:=bs4 h;refine Qa [11,13,14] ?_;refine Qq h (λ_ h=>?_) (λ_ h=>?_)
  ·refine Qa [0] ?_;refine Qap ?_;exact Qz J1 (ho _ (sj h).symm) [0]
  refine Qt <|k3 <|QL [2,4] ?_;exact Qz k1 ((sj h).symm) [0,1]
 refine QP <|Qz J0 (ho _ (sj h).symm) []
def QdN (lo_:Int) (hi_:Int) (least_:Int) (most_:Int):Option (Bool):=(some (((decide (lo_>=least_))&&(decide (lo_<=hi_)))&&(decide (hi_<=most_))))
instance QAf:Spc4 prog 214 QdN (λlo_ hi_ least_ most_=>[ti lo_,ti hi_,ti least_,ti most_]) tb:=.mk λ{lo_ hi_ least_ most_ r} h=>by
 unfold QdN at h
 refine Fe func214 ntmps214 λM0 M w0 hpl=>?_
 refine Qa [1,2,3,4] ?_
 refine Qa [13] ?_
 exact Qo h (·▸Ql hpl)
def QbL (kind_:Int):Option (Bool×Bool×Bool×Bool×Bool):=(some (((((((kind_==1)||(kind_==4))||(kind_==5))||(kind_==6))||(kind_==7))||(kind_==8)),((kind_==7)||(kind_==8)),((((((kind_==1)||(kind_==2))||(kind_==4))||(kind_==5))||(kind_==7))||(kind_==0)),(((((kind_==1)||(kind_==2))||(kind_==4))||(kind_==5))||(kind_==7)),(kind_==3)))
instance QAg:Spc1 prog 228 QbL (λkind_=>[ti kind_]) (λr=>ttup [tb r.1,tb r.2.1,tb r.2.2.1,tb r.2.2.2.1,tb r.2.2.2.2]):=.mk λ{kind_ r} h=>by
 unfold QbL at h
 refine Fe func228 ntmps228 λM0 M w0 hpl=>?_
 refine Qa [5] ?_
 refine Qa [22,23] ?_
 refine Qa [6,7,8] ?_
 refine Qa [18,19,20,21] ?_
 refine Qa [10,11,12,13,14] ?_
 exact Qo h (·▸Ql hpl)
def Qfv (l_:(List Str)):Option (Bool):=(Qu (λ(s0:Int)=>((if (decide (s0<(l_.length:Int)))=true then (idx l_ s0).bind λt0=>(Qbe t0).bind λt1=>(if (!t1)=true then (some (.inr (.inr false))) else (some (.inl (i64.wrap (s0+1))))) else (some (.inr (.inl ())))):Option ((Int)⊕((Unit)⊕(Bool))))) (0:Int)).bind λe0=>(match e0 with | .inl _=>(some true) | .inr p0=>(some p0))
instance QzB:Spc1 prog 216 Qfv (λl_=>[tsl rS l_]) tb:=.mk λ{l_ r} h=>by
 unfold Qfv at h
 refine Fe func216 ntmps216 λM0 M w0 hpl=>?_
 refine Qa [1] ?_
 refine Qi λK0 k0=>?_
 refine Qa [0,1] ?_
 have⟨e0,h0,h⟩:=bs h
 have J0:∀(p0:Unit),(.inl p0)=e0->To M w0 16 [] [] K0:=by
  intro p0 he;subst he;simp only at h;refine k0 <|Qa [0] ?_;exact Qo h (·▸Ql hpl)
 have J1:∀(p1:Bool),(.inr p1)=e0->To M w0 16 [(2,tb p1)] [] (Ret prog f216 M0 [] w0 (λ_=>[]) (λ_=>tb r) .ret):=by
  intro p1 he;subst he;simp only at h;obtain rfl:=sj h;exact Ql hpl
 refine Qm <|Qan h0 (λ(s0:Int)=>[(3,ti s0),(0,tsl rS l_)]) (λ(s0:Int)=>[]) [0,1] ?_;clear h;intro s0 o K1 h ho k1;refine Qi λ_ k2=>Qa [3,4,5] ?_;refine Qq h (λ_ h=>?_) (λ_ h=>?_)
 ·refine Qt <|k2 <|Qi λ_ k3=>Qm ?_;have⟨_,_,_,_,h⟩:=bs2 h;refine Qa [5,7,8] ?_;refine Qq h (λ_ h=>?_) (λ_ h=>?_)
  ·refine Qa [0] ?_;refine Qap ?_;exact Qz J1 (ho _ (sj h).symm) [0]
  refine Qt <|k3 <|QL [2,4] ?_;exact Qz k1 ((sj h).symm) [0,1]
 refine QP <|Qz J0 (ho _ (sj h).symm) []
