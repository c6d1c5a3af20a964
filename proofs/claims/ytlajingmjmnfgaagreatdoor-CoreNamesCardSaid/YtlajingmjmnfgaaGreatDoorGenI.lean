/- The walk. No condition. -/
import Derived.Test.YtlajingmjmnfgaaGreatDoorGenH
set_option linter.all false
open Go.Proofs.Tryz Go.IntKind
namespace Go.Proofs.YtlajingmjmnfgaaGreatDoor
noncomputable section
open Go.Sim
set_option maxRecDepth 100000
set_option maxHeartbeats 4000000
def QgU (x_:Qe) (kind_:Int) (field_:Int):Option (Int):=(idx x_.Xa kind_).bind λt0=>(idx t0.Xb field_).bind λt1=>(QgS x_ kind_ field_).bind λt2=>(if ((t1.Xi==0)&&(decide (field_>0)))=true then (some (13:Int)) else ((if (t1.Xi==0)=true then (some (t1.Xi==0)) else ((if (t1.Xi==2)=true then (some (t1.Xi==2)) else (some (t1.Xi==3)))).bind λp0=>(some p0))).bind λp1=>(if p1=true then (some (0:Int)) else (jn (λ(_:Unit)=>(some (0:Int))) λj131=>(if (t1.Xi==1)=true then (if (decide (t2<0))=true then (some (12:Int)) else (j131 ())) else (jn (λ(_:Unit)=>(j131 ())) λj186=>(if (t1.Xi==4)=true then (idx x_.Xa kind_).bind λt3=>(Qbu t3 t1.Of).bind λt4=>(if (t1.Of==([]:Str))=true then (some (0:Int)) else (if ((decide (t4<0))||(decide (t4>=field_)))=true then (some (12:Int)) else (idx x_.Xa kind_).bind λt5=>(idx t5.Xb t4).bind λt6=>(if (t6.Xi !=4)=true then (some (12:Int)) else (j186 ())))) else (if (t1.Xi==5)=true then (Qu (λ(s0:Int)=>((if (decide (s0<(x_.Xd.length:Int)))=true then (idx x_.Xd s0).bind λt7=>(if (t7.Xj==t1.Of)=true then (some (.inr (.inr (0:Int)))) else (some (.inl (i64.wrap (s0+1))))) else (some (.inr (.inl ())))):Option ((Int)⊕((Unit)⊕(Int))))) (0:Int)).bind λe0=>(match e0 with | .inl _=>(some (12:Int)) | .inr p2=>(some p2)) else (if (t1.Xi==6)=true then (Qhv x_ kind_ field_).bind λt8=>(if (decide (t8.1<0))=true then (some (12:Int)) else (if ((t8.2.length:Int) !=1)=true then (some (11:Int)) else (j186 ()))) else (Qij x_ kind_ field_ t2).bind λt9=>(some t9)))))))))
instance QzJ:Spc3 prog 149 QgU (λx_ kind_ field_=>[Qc.ty x_,ti kind_,ti field_]) ti:=.mk λ{x_ kind_ field_ r} h=>by
 unfold QgU at h
 refine Fe func149 ntmps149 λM0 M w0 hpl=>?_
 refine Qa [0,3,4] ?_
 have⟨_,_,t0,_,h⟩:=bs2 h
 refine QB [v1 9 (λv0=>box (Qd.cs zz0) v0),v1 9 (λv0=>box (Qd.cs t0) v0)] [10,11] [9,10,11,12] λm0=>?_
 refine QN (λ_ _ H=>((H.Xl 0 rfl).add 0 rfl (λ_ _ _ h=>h.2)).pick [0,3,4,5]) ?_
 have⟨t1,_,h⟩:=bs h
 refine Qa [4,5,6,7,8] ?_
 refine tIfs h [6,7,8,9,10,11] (λ_ h=>?_) (λ_ h=>?_)
 ·refine Qa [0] ?_
  exact Qo h (·▸Ql hpl)
 refine Qi λK0 k0=>?_
 refine Qa [1,3,4,5,6,7] ?_
 refine Qm ?_
 refine Qi λK1 k1=>?_
 refine Qa [1,2,3,4,5,6,7] ?_
 have⟨p0,h0,h⟩:=bs h
 have J0:To M w0 111 [(40,tb p0),(34,ti t0.Xi),(8,ti t1),(7,tptr (Qd.cs t0)),(3,tptr (Qc.cs x_)),(1,ti kind_),(2,ti field_)] [] K1:=by
  refine k1 <|Qq h (λ_ h=>?_) (λ_ h=>?_)
  ·refine Qa [0] ?_;exact Qo h (·▸Ql hpl)
  refine Qa [1,3,4,5,6,7,8] ?_;obtain⟨j131,hj131,h⟩:=Qk1 h;have J1:∀(p1:Unit),j131 p1=some r->To M w0 111 [] [] K0:=by
   intro p1 h;rw[hj131] at h;clear hj131;refine k0 <|Qa [0] ?_;exact Qo h (·▸Ql hpl)
  clear hj131;refine Qq h (λ_ h=>?_) (λ_ h=>?_)
  ·refine Qa [1] ?_;refine Qq h (λ_ h=>?_) (λ_ h=>?_)
   ·refine Qa [0] ?_;exact Qo h (·▸Ql hpl)
   refine Qt <|Qz J1 h []
  refine Qa [1,3,4,5,6,7,8] ?_;obtain⟨j186,hj186,h⟩:=Qk1 h;have J2:∀(p2:Unit),j186 p2=some r->To M w0 111 [] [] K0:=by
   intro p2 h;rw[hj186] at h;clear hj186;exact Qz J1 h []
  clear hj186;refine Qq h (λ_ h=>?_) (λ_ h=>?_)
  ·have⟨_,_,_,_,h⟩:=bs2 h;refine Qa [8,12,13,14,15] ?_;refine tIfs h [2,3,5,6,7] (λ_ h=>?_) (λ_ h=>?_)
   ·refine Qa [0] ?_;exact Qo h (·▸Ql hpl)
   refine tIfs h [6,8,9,10] (λ_ h=>?_) (λ_ h=>?_)
   ·refine Qa [0] ?_;exact Qo h (·▸Ql hpl)
   have⟨_,_,_,_,h⟩:=bs2 h;refine Qa [10] ?_;refine Qq h (λ_ h=>?_) (λ_ h=>?_)
   ·refine Qa [0] ?_;exact Qo h (·▸Ql hpl)
   refine Qt <|Qz J2 h []
  refine Qa [1,3,4,5,6,7,8] ?_;refine Qq h (λ_ h=>?_) (λ_ h=>?_)
  ·refine Qi λK2 k2=>Qa [0,4,5] ?_;have⟨e0,h1,h⟩:=bs h;have J3:∀(p3:Unit),(.inl p3)=e0->To M w0 111 [] [] K2:=by
    intro p3 he;subst he;simp only at h;refine k2 <|Qa [0] ?_;exact Qo h (·▸Ql hpl)
   have J4:∀(p4:Int),(.inr p4)=e0->To M w0 111 [(6,ti p4)] [] (Ret prog f149 M0 [] w0 (λ_=>[]) (λ_=>ti r) .ret):=by
    intro p4 he;subst he;simp only at h;obtain rfl:=sj h;exact Ql hpl
   refine Qm <|Qan h1 (λ(s0:Int)=>[(10,ti s0),(7,tptr (Qd.cs t0)),(3,tptr (Qc.cs x_))]) (λ(s0:Int)=>[]) [0,1,2] ?_;clear h;intro s0 o K3 h ho k3;refine Qi λ_ k4=>Qa [4,5,6,7] ?_;refine Qq h (λ_ h=>?_) (λ_ h=>?_)
   ·refine Qt <|k4 <|Qi λ_ k5=>Qm ?_;have⟨_,_,h⟩:=bs h;refine Qa [8,10,11,12] ?_;refine Qq h (λ_ h=>?_) (λ_ h=>?_)
    ·refine Qa [0] ?_;refine Qap ?_;exact Qz J4 (ho _ (sj h).symm) [0]
    refine Qt <|k5 <|QL [2,4,5] ?_;exact Qz k3 ((sj h).symm) [0,1,2]
   refine QP <|Qz J3 (ho _ (sj h).symm) []
  refine Qa [1,4,6,7,8] ?_;refine Qq h (λ_ h=>?_) (λ_ h=>?_)
  ·have⟨_,_,h⟩:=bs h;refine Qa [7,8] ?_;refine tIfs h [1,3] (λ_ h=>?_) (λ_ h=>?_)
   ·refine Qa [0] ?_;exact Qo h (·▸Ql hpl)
   refine Qa [2] ?_;refine Qq h (λ_ h=>?_) (λ_ h=>?_)
   ·refine Qa [0] ?_;exact Qo h (·▸Ql hpl)
   refine Qt <|Qz J2 h []
  have⟨_,_,h⟩:=bs h;refine Qa [5] ?_;exact Qo h (·▸Ql hpl)
 replace h:=h0;clear h0;refine Qq h (λ_ h=>?_) (λ_ h=>?_)
 ·refine Qt ?_;obtain rfl:=sj h;exact QI J0 [0,1,2,3,4,5,6]
 refine Qa [1,2,3,4,5,6,7] ?_;have⟨p5,h2,h⟩:=bs h;have J5:To M w0 111 [(40,tb p5),(34,ti t0.Xi),(8,ti t1),(7,tptr (Qd.cs t0)),(3,tptr (Qc.cs x_)),(1,ti kind_),(2,ti field_)] [] K1:=by
  obtain rfl:=sj h;exact QI J0 [0,1,2,3,4,5,6]
 replace h:=h2;clear h2;refine Qq h (λ_ h=>?_) (λ_ h=>?_)
 ·refine Qt ?_;obtain rfl:=sj h;exact QI J5 [0,1,2,3,4,5,6]
 refine QL [1,2,3,4,5,6,7] ?_;obtain rfl:=sj h;exact QI J5 [0,1,2,3,4,5,6]
def QgV (x_:Qe) (i_:Int):Option (Int):=(idx x_.Xc i_).bind λt0=>(Qu (λ(s0:Int)=>((if (decide (s0<i_))=true then (idx x_.Xc s0).bind λt1=>(if (t1.Xj==t0.Xj)=true then (some (.inr (.inr (7:Int)))) else (some (.inl (i64.wrap (s0+1))))) else (some (.inr (.inl ())))):Option ((Int)⊕((Unit)⊕(Int))))) (0:Int)).bind λe0=>(match e0 with | .inl _=>(Qck x_ t0.Xi).bind λt2=>(if (decide (t2<0))=true then (some (12:Int)) else (Qu (λ(s1:Int×Bool)=>((if (decide (s1.1<2))=true then (jn (λ(p0:Bool)=>(some (.inl ((i64.wrap (s1.1+1)),p0)))) λj107=>(idx [t0.A,t0.B] s1.1).bind λt3=>(if (t3==([]:Str))=true then (j107 s1.2) else (idx x_.Xa t2).bind λt4=>(idx [t0.A,t0.B] s1.1).bind λt5=>(Qbu t4 t5).bind λt6=>(if (decide (t6<0))=true then (some (.inr (.inr (12:Int)))) else (idx x_.Xa t2).bind λt7=>(idx t7.Xb t6).bind λt8=>(j107 (s1.2||((t8.Xi !=2)&&(t8.Xi !=4))))))) else (some (.inr (.inl s1.2)))):Option ((Int×Bool)⊕((Bool)⊕(Int))))) ((0:Int),false)).bind λe1=>(match e1 with | .inl p1=>(if p1=true then (some (13:Int)) else (if (t0.A==t0.B)=true then (some (1:Int)) else (some (0:Int)))) | .inr p2=>(some p2))) | .inr p3=>(some p3))
instance QzK:Spc2 prog 150 QgV (λx_ i_=>[Qc.ty x_,ti i_]) ti:=.mk λ{x_ i_ r} h=>by
 unfold QgV at h
 refine Fe func150 ntmps150 λM0 M w0 hpl=>?_
 refine Qa [0,3] ?_
 have⟨t0,_,h⟩:=bs h
 refine QB [v1 5 (λv0=>box (Qk.cs zz3) v0),v1 5 (λv0=>box (Qk.cs t0) v0)] [6,7] [5,6,7] λm0=>?_
 refine QN (λ_ _ H=>((H.Xl 0 rfl).add 0 rfl (λ_ _ _ h=>h.2)).pick [0,3,4]) ?_
 refine Qi λK0 k0=>?_
 refine Qa [0,1,2,3] ?_
 have⟨e0,h0,h⟩:=bs h
 have J0:∀(p0:Unit),(.inl p0)=e0->To M w0 89 [(5,tptr (Qk.cs t0)),(2,tptr (Qc.cs x_))] [] K0:=by
  intro p0 he;subst he;simp only at h;refine k0 ?_;have⟨t1,_,h⟩:=bs h;refine Qa [4,5,6] ?_;refine tIfs h [1,2,3,4] (λ_ h=>?_) (λ_ h=>?_)
  ·refine Qa [0] ?_;exact Qo h (·▸Ql hpl)
  refine Qa [5,7,8,9] ?_;refine Qa [0,1,2,3,4] ?_;refine Qi λK1 k1=>Qa [0,1,2,3,4,5] ?_;have⟨e1,h1,h⟩:=bs h;have J1:∀(p1:Bool),(.inl p1)=e1->To M w0 89 [(9,tb p1),(5,tptr (Qk.cs t0))] [] K1:=by
   intro p1 he;subst he;simp only at h;refine k1 <|tIfs h [0,2] (λ_ h=>?_) (λ_ h=>?_)
   ·refine Qa [0] ?_;exact Qo h (·▸Ql hpl)
   refine tIfs h [4] (λ_ h=>?_) (λ_ h=>?_)
   ·refine Qa [0] ?_;exact Qo h (·▸Ql hpl)
   refine Qa [0] ?_;exact Qo h (·▸Ql hpl)
  have J2:∀(p2:Int),(.inr p2)=e1->To M w0 89 [(4,ti p2)] [] (Ret prog f150 M0 [] w0 (λ_=>[]) (λ_=>ti r) .ret):=by
   intro p2 he;subst he;simp only at h;obtain rfl:=sj h;exact Ql hpl
  refine Qm <|Qan h1 (λ(s0:Int×Bool)=>[(10,ti s0.1),(9,tb s0.2),(8,tsl rS [t0.A,t0.B]),(7,ti t1),(5,tptr (Qk.cs t0)),(2,tptr (Qc.cs x_))]) (λ(s0:Int×Bool)=>[]) [0,1,2,3,4,5] ?_;clear h;intro s0 o K2 h ho k2;refine Qi λ_ k3=>Qa [1,2,3,4,5,6,7] ?_;refine Qq h (λ_ h=>?_) (λ_ h=>?_)
  ·refine Qt <|k3 <|Qi λK3 k4=>?_;obtain⟨j107,hj107,h⟩:=Qk1 h;have J3:∀(p3:Bool),j107 p3=some o->To M w0 89 [(10,ti s0.1),(9,tb p3),(8,tsl rS [t0.A,t0.B]),(7,ti t1),(5,tptr (Qk.cs t0)),(2,tptr (Qc.cs x_))] [] K3:=by
    intro p3 h;rw[hj107] at h;clear hj107;refine k4 <|QL [2,3,4,5,6,7] ?_;exact Qz k2 ((sj h).symm) [0,1,2,3,4,5]
   clear hj107;refine Qm ?_;have⟨_,_,h⟩:=bs h;refine tIfs h [4,6,7,8,9,10,11] (λ_ h=>?_) (λ_ h=>?_)
   ·refine QP <|Qz J3 h [1,2,3,4,5,6]
   have⟨_,_,_,_,_,_,h⟩:=bs3 h;refine Qa [10,12,13,14,15,16,17] ?_;refine tIfs h [1,2,3,4,5,6,7,8] (λ_ h=>?_) (λ_ h=>?_)
   ·refine Qa [0] ?_;refine Qap ?_;exact Qz J2 (ho _ (sj h).symm) [0]
   have⟨_,_,_,_,h⟩:=bs2 h;refine Qa [10,13,14,15,16,17,18] ?_;refine QL [9,11,12,13,14,15] ?_;exact Qz J3 h [1,0,2,3,4,5]
  refine QP <|Qz J1 (ho _ (sj h).symm) [2,5]
 have J4:∀(p4:Int),(.inr p4)=e0->To M w0 89 [(4,ti p4)] [] (Ret prog f150 M0 [] w0 (λ_=>[]) (λ_=>ti r) .ret):=by
  intro p4 he;subst he;simp only at h;obtain rfl:=sj h;exact Ql hpl
 refine Qm <|Qan h0 (λ(s1:Int)=>[(6,ti s1),(5,tptr (Qk.cs t0)),(2,tptr (Qc.cs x_)),(1,ti i_)]) (λ(s1:Int)=>[]) [0,1,2,3] ?_;clear h;intro s1 o K4 h ho k5;refine Qi λ_ k6=>Qa [2,3,4,5,6] ?_;refine Qq h (λ_ h=>?_) (λ_ h=>?_)
 ·refine Qt <|k6 <|Qi λ_ k7=>Qm ?_;have⟨_,_,h⟩:=bs h;refine Qa [8,10,11,12,13] ?_;refine Qq h (λ_ h=>?_) (λ_ h=>?_)
  ·refine Qa [0] ?_;refine Qap ?_;exact Qz J4 (ho _ (sj h).symm) [0]
  refine Qt <|k7 <|QL [2,4,5,6] ?_;exact Qz k5 ((sj h).symm) [0,1,2,3]
 refine QP <|Qz J0 (ho _ (sj h).symm) [2,3]
def Qfy (x_:Qe):Option ((List QG)):=(QgQ x_).bind λt0=>(if (t0 !=0)=true then (Qcq ([]:List QG) (-1) (-1) (-1) t0).bind λt1=>(some t1) else (Qu (λ(s0:Int×List QG)=>((if (decide (s0.1<(x_.Xd.length:Int)))=true then (Qu (λ(s1:Int)=>((if (decide (s1<s0.1))=true then (idx x_.Xd s1).bind λt2=>(idx x_.Xd s0.1).bind λt3=>(if (t2.Xj==t3.Xj)=true then (Qcq s0.2 (-1) s0.1 (-1) 7).bind λt4=>(some (.inr t4)) else (some (.inl (i64.wrap (s1+1))))) else (some (.inr s0.2))):Option ((Int)⊕((List QG))))) (0:Int)).bind λp0=>(some (.inl ((i64.wrap (s0.1+1)),p0))) else (some (.inr s0.2))):Option ((Int×List QG)⊕((List QG))))) ((0:Int),([]:List QG))).bind λp1=>(Qu (λ(s2:Int×List QG)=>((if (decide (s2.1<(x_.Xa.length:Int)))=true then (idx x_.Xa s2.1).bind λt5=>(idx x_.Xa s2.1).bind λt6=>(Qck x_ t6.Xj).bind λt7=>((if (decide (t7<s2.1))=true then (Qcq s2.2 s2.1 (-1) (-1) 7).bind λt8=>(some t8) else (QgR t5.Xb).bind λt9=>((if (!t9)=true then (Qcq s2.2 s2.1 (-1) (-1) 11).bind λt10=>(some t10) else (some s2.2))).bind λp2=>(some p2))).bind λp3=>(Qu (λ(s3:Int×List QG)=>((if (decide (s3.1<(t5.Xb.length:Int)))=true then (idx x_.Xa s2.1).bind λt11=>(idx t5.Xb s3.1).bind λt12=>(Qbu t11 t12.Xj).bind λt13=>((if (decide (t13<s3.1))=true then (Qcq s3.2 s2.1 s3.1 (-1) 7).bind λt14=>(some t14) else (QgU x_ s2.1 s3.1).bind λt15=>(Qcq s3.2 s2.1 s3.1 (-1) t15).bind λt16=>(some t16))).bind λp4=>(some (.inl ((i64.wrap (s3.1+1)),p4))) else (some (.inr s3.2))):Option ((Int×List QG)⊕((List QG))))) ((0:Int),p3)).bind λp5=>(some (.inl ((i64.wrap (s2.1+1)),p5))) else (some (.inr s2.2))):Option ((Int×List QG)⊕((List QG))))) ((0:Int),p1)).bind λp6=>(Qu (λ(s4:Int×List QG)=>((if (decide (s4.1<(x_.Xc.length:Int)))=true then (QgV x_ s4.1).bind λt17=>(Qcq s4.2 (-1) (-1) s4.1 t17).bind λt18=>(some (.inl ((i64.wrap (s4.1+1)),t18))) else (some (.inr s4.2))):Option ((Int×List QG)⊕((List QG))))) ((0:Int),p6)).bind λp7=>(some p7))
instance QzL:Spc1 prog 98 Qfy (λx_=>[Qc.ty x_]) (tsl Q0):=.mk λ{x_ r} h=>by
 unfold Qfy at h
 refine Fe func98 ntmps98 λM0 M w0 hpl=>?_
 refine Qa [0] ?_
 have⟨_,_,h⟩:=bs h
 refine Qa [2,3] ?_
 refine tIfs h [1,2,3] (λ_ h=>?_) (λ_ h=>?_)
 ·refine QN (λ_ _ H=>H.nil (Q0) 182) ?_
  have⟨t0,_,h⟩:=bs h
  refine QB [v1 1 (λv0=>own Q0 182 t0 v0)] [2] [1,2] λm0=>?_
  refine Qap ?_
  refine Qae (by intro _ _ H;exact (H.Xn 1 rfl).pick [0]) ?_
  obtain rfl:=sj h
  exact Ql hpl
 refine Qa [0,3] ?_
 refine QN (λ_ _ H=>H.nil (Q0) 182) ?_
 refine Qi λK0 k0=>?_
 refine Qa [0,1,2] ?_
 have⟨e0,h0,h⟩:=bs h
 have J0:∀(p0:List QG) (y0:Value),p0=e0->To M w0 122 [(4,tv y0),(1,tptr (Qc.cs x_))] [own Q0 182 p0 y0] K0:=by
  intro p0 y0 he;subst he;refine k0 <|Qi λK1 k1=>Qa [0,1,2] ?_;have⟨e1,h1,h⟩:=bs h;have J1:∀(p1:List QG) (y1:Value),p1=e1->To M w0 122 [(4,tv y1),(1,tptr (Qc.cs x_))] [own Q0 182 p1 y1] K1:=by
   intro p1 y1 he;subst he;refine k1 <|Qi λK2 k2=>Qa [0,1,2] ?_;have⟨e2,h2,h⟩:=bs h;have J2:∀(p2:List QG) (y2:Value),p2=e2->To M w0 122 [(4,tv y2)] [own Q0 182 p2 y2] K2:=by
    intro p2 y2 he;subst he;refine k2 <|Qa [0,1,2] ?_;refine Qap ?_;refine Qae (by intro _ _ H;exact (H.Xn 1 rfl).pick [0]) ?_;obtain rfl:=sj h;exact Ql hpl
   refine Qm <|QaJ h2 (λ(s0:Int×List QG) (y3:Value)=>[(10,ti s0.1),(4,tv y3),(1,tptr (Qc.cs x_))]) (λ(s0:Int×List QG) (y3:Value)=>[own Q0 182 s0.2 y3]) y1 [0,1,2] ?_;clear h;intro s0 y3 o K3 h ho k3;refine Qi λ_ k4=>Qa [4,5,6,7] ?_;refine Qq h (λ_ h=>?_) (λ_ h=>?_)
   ·refine Qt <|k4 <|Qi λ_ k5=>Qm ?_;have⟨_,_,t1,_,h⟩:=bs2 h;refine Qah [v1 5 (λv0=>own Q0 182 t1 v0)] [6] [5,6,8,9] λm1=>?_;refine k5 <|QL [2,3,4,5] ?_;exact QX k3 (m1 5) ((sj h).symm) [0,2,3]
   refine QP <|QX J2 y3 (ho _ (sj h).symm) [2]
  refine Qm <|QaJ h1 (λ(s1:Int×List QG) (y4:Value)=>[(7,ti s1.1),(4,tv y4),(1,tptr (Qc.cs x_))]) (λ(s1:Int×List QG) (y4:Value)=>[own Q0 182 s1.2 y4]) y0 [0,1,2] ?_;clear h;intro s1 y4 o K4 h ho k6;refine Qi λ_ k7=>Qa [4,5,6,7] ?_;refine Qq h (λ_ h=>?_) (λ_ h=>?_)
  ·refine Qt <|k7 <|Qi λK5 k8=>Qm ?_;have⟨t2,_,h⟩:=bs h;refine Qa [6,8,9,10] ?_;refine Qi λK6 k9=>?_;have⟨_,_,_,_,h⟩:=bs2 h;refine Qa [9,10,11,12,13] ?_;have⟨p3,h3,h⟩:=bs h;have J3:∀(y5:Value),To M w0 122 [(4,tv y5),(8,tsl Qd t2.Xb),(7,ti s1.1),(1,tptr (Qc.cs x_))] [own Q0 182 p3 y5] K6:=by
    intro y5;refine k9 <|Qa [0,1,2,3,4] ?_;have⟨e3,h4,h⟩:=bs h;have J4:∀(p4:List QG) (y6:Value),p4=e3->To M w0 122 [(4,tv y6),(7,ti s1.1),(1,tptr (Qc.cs x_))] [own Q0 182 p4 y6] K5:=by
     intro p4 y6 he;subst he;refine k8 <|QL [2,3,4] ?_;exact QX k6 y6 ((sj h).symm) [0,1,2]
    refine Qm <|QaJ h4 (λ(s2:Int×List QG) (y7:Value)=>[(9,ti s2.1),(4,tv y7),(8,tsl Qd t2.Xb),(7,ti s1.1),(1,tptr (Qc.cs x_))]) (λ(s2:Int×List QG) (y7:Value)=>[own Q0 182 s2.2 y7]) y5 [0,1,2,3,4] ?_;clear h;intro s2 y7 o K7 h ho k10;refine Qi λ_ k11=>Qa [3,4,5,6,7,8] ?_;refine Qq h (λ_ h=>?_) (λ_ h=>?_)
    ·refine Qt <|k11 <|Qi λK8 k12=>Qm ?_;have⟨_,_,_,_,_,_,h⟩:=bs3 h;refine Qa [12,14,15,16,17,18] ?_;have⟨p5,h5,h⟩:=bs h;have J5:∀(y8:Value),To M w0 122 [(4,tv y8),(9,ti s2.1),(8,tsl Qd t2.Xb),(7,ti s1.1),(1,tptr (Qc.cs x_))] [own Q0 182 p5 y8] K8:=by
      intro y8;refine k12 <|QL [2,3,4,5,6] ?_;exact QX k10 y8 ((sj h).symm) [0,1,2,3,4]
     replace h:=h5;clear h5;refine Qq h (λ_ h=>?_) (λ_ h=>?_)
     ·have⟨t3,_,h⟩:=bs h;refine Qah [v1 3 (λv0=>own Q0 182 t3 v0)] [4] [3,4,6,7,8,9] λm2=>?_;obtain rfl:=sj h;exact QI (J5 (m2 3)) [1,2,3,4,5]
     have⟨_,_,t4,_,h⟩:=bs2 h;refine Qah [v1 7 (λv0=>own Q0 182 t4 v0)] [8] [7,8,10,11,12,13] λm3=>?_;obtain rfl:=sj h;exact QI (J5 (m3 7)) [1,2,3,4,5]
    refine QP <|QX J4 y7 (ho _ (sj h).symm) [2,4,5]
   replace h:=h3;clear h3;refine Qq h (λ_ h=>?_) (λ_ h=>?_)
   ·have⟨t5,_,h⟩:=bs h;refine Qah [v1 2 (λv0=>own Q0 182 t5 v0)] [3] [2,3,5,6,7] λm4=>?_;obtain rfl:=sj h;exact QI (J3 (m4 2)) [1,2,3,4]
   have⟨_,_,h⟩:=bs h;refine Qa [2,4,5,6,7] ?_;have⟨p6,h6,h⟩:=bs h;have J6:∀(y9:Value),To M w0 122 [(4,tv y9),(8,tsl Qd t2.Xb),(7,ti s1.1),(1,tptr (Qc.cs x_))] [own Q0 182 p6 y9] K6:=by
    intro y9;obtain rfl:=sj h;exact QI (J3 y9) [0,1,2,3]
   replace h:=h6;clear h6;refine Qq h (λ_ h=>?_) (λ_ h=>?_)
   ·have⟨t6,_,h⟩:=bs h;refine Qah [v1 2 (λv0=>own Q0 182 t6 v0)] [3] [2,3,5,6,7] λm5=>?_;obtain rfl:=sj h;exact QI (J6 (m5 2)) [1,2,3,4]
   refine Qt ?_;obtain rfl:=sj h;exact QI (J6 y4) [3,1,2,4]
  refine QP <|QX J1 y4 (ho _ (sj h).symm) [2,3]
 refine Qm <|QaJ h0 (λ(s3:Int×List QG) (y10:Value)=>[(5,ti s3.1),(4,tv y10),(1,tptr (Qc.cs x_))]) (λ(s3:Int×List QG) (y10:Value)=>[own Q0 182 s3.2 y10]) (.slice none 0 0) [0,1,2] ?_;clear h;intro s3 y10 o K9 h ho k13;refine Qi λ_ k14=>Qa [4,5,6,7] ?_;refine Qq h (λ_ h=>?_) (λ_ h=>?_)
 ·refine Qt <|k14 <|Qi λK10 k15=>Qm <|Qa [0,2,3,4] ?_;have⟨e4,h7,h⟩:=bs h;have J7:∀(p7:List QG) (y11:Value),p7=e4->To M w0 122 [(4,tv y11),(5,ti s3.1),(1,tptr (Qc.cs x_))] [own Q0 182 p7 y11] K10:=by
   intro p7 y11 he;subst he;refine k15 <|QL [2,3,4] ?_;exact QX k13 y11 ((sj h).symm) [0,1,2]
  refine Qm <|Qan h7 (λ(s4:Int)=>[(6,ti s4),(5,ti s3.1),(4,tv y10),(1,tptr (Qc.cs x_))]) (λ(s4:Int)=>[own Q0 182 s3.2 y10]) [0,1,2,3] ?_;clear h;intro s4 o K11 h ho k16;refine Qi λ_ k17=>Qa [2,3,4,5,6] ?_;refine Qq h (λ_ h=>?_) (λ_ h=>?_)
  ·refine Qt <|k17 <|Qi λ_ k18=>Qm ?_;have⟨_,_,_,_,h⟩:=bs2 h;refine Qa [12,14,15,16,17] ?_;refine Qq h (λ_ h=>?_) (λ_ h=>?_)
   ·have⟨t7,_,h⟩:=bs h;refine QB [v1 2 (λv0=>own Q0 182 t7 v0)] [3] [2,3,6,7] λm6=>?_;refine QP <|QX J7 (m6 2) (ho _ (sj h).symm) [1,2,3]
   refine Qt <|k18 <|QL [2,4,5,6] ?_;exact Qz k16 ((sj h).symm) [0,1,2,3]
  refine QP <|QX J7 y10 (ho _ (sj h).symm) [3,2,4]
 refine QP <|QX J0 y10 (ho _ (sj h).symm) [2,3]
def Qfz (x_:Qe):Option (Int):=(Qfy x_).bind λt0=>(if (decide ((t0.length:Int)>0))=true then (idx t0 0).bind λt1=>(some t1.Code) else (some (0:Int)))
instance QwN:Spc1 prog 39 Qfz (λx_=>[Qc.ty x_]) ti:=.mk λ{x_ r} h=>by
 unfold Qfz at h
 refine Fe func39 ntmps39 λM0 M w0 hpl=>?_
 refine Qa [0] ?_
 have⟨_,_,h⟩:=bs h
 refine Qa [2] ?_
 refine tIfs h [2,3] (λ_ h=>?_) (λ_ h=>?_)
 ·have⟨_,_,h⟩:=bs h
  refine Qa [4] ?_
  exact Qo h (·▸Ql hpl)
 refine Qa [0] ?_
 exact Qo h (·▸Ql hpl)
def Qgp (x_:Qe):Option ((List QT)×(List Str)×Int):=(Qfy x_).bind λt0=>(if (decide ((t0.length:Int)>0))=true then (idx t0 0).bind λt1=>(some (([]:List QT),([]:List Str),t1.Code)) else (Qu (λ(s0:Int×List Str×List QT)=>((if (decide (s0.1<(x_.Xa.length:Int)))=true then (idx x_.Xa s0.1).bind λt2=>(rm (s0.2.2.length+[(QT.mk s0.1 (-1) t2.Lo true),(QT.mk s0.1 (-1) t2.Hi false)].length)).bind λ_=>(cat (t2.Xj.length+([32,108,101,97,115,116]:Str).length)).bind λ_=>(cat (t2.Xj.length+([32,109,111,115,116]:Str).length)).bind λ_=>(rm (s0.2.1.length+[(t2.Xj++([32,108,101,97,115,116]:Str)),(t2.Xj++([32,109,111,115,116]:Str))].length)).bind λ_=>(Qu (λ(s1:Int×List QT×List Str)=>((if (decide (s1.1<(t2.Xb.length:Int)))=true then (idx t2.Xb s1.1).bind λt3=>((if (t3.Xi==1)=true then (Qck x_ t3.Of).bind λt4=>(rm (s1.2.1.length+[(QT.mk s0.1 t4 t3.Lo true),(QT.mk s0.1 t4 t3.Hi false)].length)).bind λ_=>(cat (t2.Xj.length+([46]:Str).length)).bind λ_=>(cat ((t2.Xj++([46]:Str)).length+t3.Xj.length)).bind λ_=>(cat (((t2.Xj++([46]:Str))++t3.Xj).length+([32,108,101,97,115,116]:Str).length)).bind λ_=>(cat (t2.Xj.length+([46]:Str).length)).bind λ_=>(cat ((t2.Xj++([46]:Str)).length+t3.Xj.length)).bind λ_=>(cat (((t2.Xj++([46]:Str))++t3.Xj).length+([32,109,111,115,116]:Str).length)).bind λ_=>(rm (s1.2.2.length+[(((t2.Xj++([46]:Str))++t3.Xj)++([32,108,101,97,115,116]:Str)),(((t2.Xj++([46]:Str))++t3.Xj)++([32,109,111,115,116]:Str))].length)).bind λ_=>(some ((s1.2.1++[(QT.mk s0.1 t4 t3.Lo true),(QT.mk s0.1 t4 t3.Hi false)]),(s1.2.2++[(((t2.Xj++([46]:Str))++t3.Xj)++([32,108,101,97,115,116]:Str)),(((t2.Xj++([46]:Str))++t3.Xj)++([32,109,111,115,116]:Str))]))) else (some (s1.2.1,s1.2.2)))).bind λp0=>(some (.inl ((i64.wrap (s1.1+1)),p0.1,p0.2))) else (some (.inr (s1.2.1,s1.2.2)))):Option ((Int×List QT×List Str)⊕((List QT×List Str))))) ((0:Int),(s0.2.2++[(QT.mk s0.1 (-1) t2.Lo true),(QT.mk s0.1 (-1) t2.Hi false)]),(s0.2.1++[(t2.Xj++([32,108,101,97,115,116]:Str)),(t2.Xj++([32,109,111,115,116]:Str))]))).bind λp1=>(some (.inl ((i64.wrap (s0.1+1)),p1.2,p1.1))) else (some (.inr (s0.2.1,s0.2.2)))):Option ((Int×List Str×List QT)⊕((List Str×List QT))))) ((0:Int),([]:List Str),([]:List QT))).bind λp2=>(some (p2.2,p2.1,(0:Int))))
instance Qoj:SpcS prog 40 (∀{x_:Qe} {r:(List QT)×(List Str)×Int},Qgp x_=some r->FnOk prog 40 [Qc.ty x_] [] (λv=>[own rS 9 r.2.1 v]) (λv=>ttup [tsl QaS r.1,tv v,ti r.2.2])):=.mk λ{x_ r} h=>by
 unfold Qgp at h
 refine Fe func40 ntmps40 λM0 M w0 hpl=>?_
 refine Qa [0] ?_
 have⟨_,_,h⟩:=bs h
 refine Qa [2,3] ?_
 refine tIfs h [2,3,4] (λ_ h=>?_) (λ_ h=>?_)
 ·have⟨_,_,h⟩:=bs h
  refine Qa [4,5,6] ?_
  refine QN (λ_ _ H=>H.nil (rS) 9) ?_
  exact Qo h (·▸QbR (.slice none 0 0) [0] hpl)
 refine Qa [0,3] ?_
 refine QN (λ_ _ H=>H.nil (QaS) 183) ?_
 refine Qa [0,1,2] ?_
 refine QN (λ_ _ H=>H.nil (rS) 9) ?_
 refine Qi λK0 k0=>?_
 refine Qa [0,1,2,3] ?_
 have⟨e0,h0,h⟩:=bs h
 have J0:∀(p0:List Str×List QT) (y0:Value) (y1:Value),p0=e0->To M w0 105 [(7,tv y0),(6,tv y1)] [own rS 9 p0.1 y0,own QaS 183 p0.2 y1] K0:=by
  intro p0 y0 y1 he;subst he;refine k0 <|Qa [0,1,2,3,4,5,6] ?_;refine Qap ?_;refine Qae (by intro _ _ H;exact ((H.Xk [1,0] rfl).Xn 2 rfl).pick [0,2,4,5,6]) ?_;obtain rfl:=sj h;exact QbR y0 [0] hpl
 refine Qm <|Qld h0 (λ(s0:Int×List Str×List QT) (y2:Value) (y3:Value)=>[(8,ti s0.1),(7,tv y2),(6,tv y3),(1,tptr (Qc.cs x_))]) (λ(s0:Int×List Str×List QT) (y2:Value) (y3:Value)=>[own rS 9 s0.2.1 y2,own QaS 183 s0.2.2 y3]) (.slice none 0 0) (.slice none 0 0) [0,1,2,3] ?_;clear h;intro s0 y2 y3 o K1 h ho k1;refine Qi λ_ k2=>Qa [4,5,6,7,8] ?_;refine Qq h (λ_ h=>?_) (λ_ h=>?_)
 ·refine Qt <|k2 <|Qi λK2 k3=>Qm ?_;have⟨t0,_,h⟩:=bs h;refine QB [v1 5 (λv0=>box (Qg.cs zz1) v0),v1 5 (λv0=>box (Qg.cs t0) v0)] [6,7] [5,7,8,9,10] λm0=>?_;refine QN (λ_ _ H=>(((H.Xk [2,0,1] rfl).Xl 0 rfl).add 0 rfl (λ_ _ _ h=>h.2)).pick [0,3,4,5,6]) ?_;have⟨_,_,h⟩:=bs h;refine QB [v1 10 (λv0=>own QaS 183 (s0.2.2++[(QT.mk s0.1 (-1:Int) t0.Lo true),(QT.mk s0.1 (-1:Int) t0.Hi false)]) v0)] [11] [10,11,12,13,14,15] λm1=>?_;have⟨_,_,_,_,_,_,h⟩:=bs3 h;refine QB [v1 8 (λv0=>own rS 9 (s0.2.1++[(t0.Xj++([32,108,101,97,115,116]:Str)),(t0.Xj++([32,109,111,115,116]:Str))]) v0)] [9] [8,9,10,11,12,13,14] λm2=>?_;refine Qa [0,1,2,3,4,5,6,7] ?_;have⟨e1,h1,h⟩:=bs h;have J1:∀(p1:List QT×List Str) (y4:Value) (y5:Value),p1=e1->To M w0 105 [(7,tv y5),(6,tv y4),(8,ti s0.1),(1,tptr (Qc.cs x_))] [own QaS 183 p1.1 y4,own rS 9 p1.2 y5] K2:=by
   intro p1 y4 y5 he;subst he;refine k3 <|QL [2,3,4,5] ?_;refine Qae (λ_ _ H=>(H.pick [0,1,2,3]).Xk [1,0] rfl) ?_;exact Qgh k1 y5 y4 ((sj h).symm) [0,1,2,3]
  refine Qm <|Qld h1 (λ(s1:Int×List QT×List Str) (y6:Value) (y7:Value)=>[(10,ti s1.1),(7,tv y7),(6,tv y6),(9,tptr (Qg.cs t0)),(8,ti s0.1),(1,tptr (Qc.cs x_))]) (λ(s1:Int×List QT×List Str) (y6:Value) (y7:Value)=>[own QaS 183 s1.2.1 y6,own rS 9 s1.2.2 y7]) (m1 10) (m2 8) [0,2,4,5,6,7] ?_;clear h;intro s1 y6 y7 o K3 h ho k4;refine Qi λ_ k5=>Qa [4,5,6,7,8,9,10] ?_;refine Qq h (λ_ h=>?_) (λ_ h=>?_)
  ·refine Qt <|k5 <|Qi λK4 k6=>Qm ?_;have⟨t1,_,h⟩:=bs h;refine QB [v1 5 (λv0=>box (Qd.cs zz0) v0),v1 5 (λv0=>box (Qd.cs t1) v0)] [6,7] [5,7,8,9,10,11,12] λm3=>?_;refine QN (λ_ _ H=>(((H.Xk [2,0,1] rfl).Xl 0 rfl).add 0 rfl (λ_ _ _ h=>h.2)).pick [0,3,4,5,6,7,8]) ?_;refine Qa [2,3,4,5,6,7,8,9] ?_;have⟨p2,h2,h⟩:=bs h;have J2:∀(y8:Value) (y9:Value),To M w0 105 [(7,tv y9),(6,tv y8),(10,ti s1.1),(9,tptr (Qg.cs t0)),(8,ti s0.1),(1,tptr (Qc.cs x_))] [own QaS 183 p2.1 y8,own rS 9 p2.2 y9] K4:=by
    intro y8 y9;refine k6 <|QL [2,3,4,5,6,7] ?_;exact Qgh k4 y8 y9 ((sj h).symm) [0,1,2,3,4,5]
   replace h:=h2;clear h2;refine Qq h (λ_ h=>?_) (λ_ h=>?_)
   ·have⟨t2,_,h⟩:=bs h;refine Qa [4,6,7,8,9,10,11,12] ?_;have⟨_,_,h⟩:=bs h;refine QB [v1 12 (λv0=>own QaS 183 (s1.2.1++[(QT.mk s0.1 t2 t1.Lo true),(QT.mk s0.1 t2 t1.Hi false)]) v0)] [13] [12,13,15,16,17,18,19,20] λm4=>?_;have⟨_,_,_,_,_,_,_,_,h⟩:=bs4 h;have⟨_,_,_,_,_,_,h⟩:=bs3 h;refine Qah [v1 16 (λv0=>own rS 9 (s1.2.2++[(((t0.Xj++([46]:Str))++t1.Xj)++([32,108,101,97,115,116]:Str)),(((t0.Xj++([46]:Str))++t1.Xj)++([32,109,111,115,116]:Str))]) v0)] [17] [16,17,18,19,21,22,23,24] λm5=>?_;obtain rfl:=sj h;exact QI (J2 (m4 12) (m5 16)) [1,3,4,5,6,7]
   refine Qt ?_;obtain rfl:=sj h;exact QI (J2 y6 y7) [3,4,2,5,6,7]
  refine QP <|Qgh J1 y6 y7 (ho _ (sj h).symm) [2,3,5,6]
 refine QP <|Qgh J0 y2 y3 (ho _ (sj h).symm) [2,3]
def QgW (x_:Qe):Option ((List QQ)):=(Qu (λ(s0:Int×List QQ)=>((if (decide (s0.1<(x_.Xa.length:Int)))=true then (idx x_.Xa s0.1).bind λt0=>(Qu (λ(s1:Int×List QQ)=>((if (decide (s1.1<(t0.Xb.length:Int)))=true then ((idx t0.Xb s1.1).bind λt1=>(if ((t1.Xi !=2)&&(t1.Xi !=4))=true then (some s1.2) else ((if ((t1.Xi==4)&&(t1.Of !=([]:Str)))=true then (Qbu t0 t1.Of).bind λt2=>(some t2) else (some (-1:Int)))).bind λp0=>(cat (t0.Xj.length+([46]:Str).length)).bind λ_=>(cat ((t0.Xj++([46]:Str)).length+t1.Xj.length)).bind λ_=>(cat (((t0.Xj++([46]:Str))++t1.Xj).length+([32,108,111,119]:Str).length)).bind λ_=>(rm (s1.2.length+[(QQ.mk s0.1 (((t0.Xj++([46]:Str))++t1.Xj)++([32,108,111,119]:Str)) (QV.mk p0 s1.1 (i64.wrap (0 - t1.Lo))))].length)).bind λ_=>(cat (((t0.Xj++([46]:Str))++t1.Xj).length+([32,104,105,103,104]:Str).length)).bind λ_=>(rm ((s1.2++[(QQ.mk s0.1 (((t0.Xj++([46]:Str))++t1.Xj)++([32,108,111,119]:Str)) (QV.mk p0 s1.1 (i64.wrap (0 - t1.Lo))))]).length+[(QQ.mk s0.1 (((t0.Xj++([46]:Str))++t1.Xj)++([32,104,105,103,104]:Str)) (QV.mk s1.1 p0 t1.Hi))].length)).bind λ_=>(some ((s1.2++[(QQ.mk s0.1 (((t0.Xj++([46]:Str))++t1.Xj)++([32,108,111,119]:Str)) (QV.mk p0 s1.1 (i64.wrap (0 - t1.Lo))))])++[(QQ.mk s0.1 (((t0.Xj++([46]:Str))++t1.Xj)++([32,104,105,103,104]:Str)) (QV.mk s1.1 p0 t1.Hi))])))).bind λp1=>(some (.inl ((i64.wrap (s1.1+1)),p1))) else (some (.inr s1.2))):Option ((Int×List QQ)⊕((List QQ))))) ((0:Int),s0.2)).bind λp2=>(some (.inl ((i64.wrap (s0.1+1)),p2))) else (some (.inr s0.2))):Option ((Int×List QQ)⊕((List QQ))))) ((0:Int),([]:List QQ))).bind λp3=>(Qu (λ(s2:Int×List QQ)=>((if (decide (s2.1<(x_.Xc.length:Int)))=true then (idx x_.Xc s2.1).bind λt3=>(Qck x_ t3.Xi).bind λt4=>(idx x_.Xa t4).bind λt5=>(Qbu t5 t3.A).bind λt6=>(idx x_.Xa t4).bind λt7=>(Qbu t7 t3.B).bind λt8=>(cat (([114,117,108,101,58]:Str).length+t3.Xj.length)).bind λ_=>(rm (s2.2.length+[(QQ.mk t4 (([114,117,108,101,58]:Str)++t3.Xj) (QV.mk t6 t8 t3.N))].length)).bind λ_=>(some (.inl ((i64.wrap (s2.1+1)),(s2.2++[(QQ.mk t4 (([114,117,108,101,58]:Str)++t3.Xj) (QV.mk t6 t8 t3.N))])))) else (some (.inr s2.2))):Option ((Int×List QQ)⊕((List QQ))))) ((0:Int),p3)).bind λp4=>(some p4)
instance QzM:Spc1 prog 26 QgW (λx_=>[Qc.ty x_]) (tsl Qab):=.mk λ{x_ r} h=>by
 unfold QgW at h
 refine Fe func26 ntmps26 λM0 M w0 hpl=>?_
 refine Qa [0] ?_
 refine Qa [0,1] ?_
 refine QN (λ_ _ H=>H.nil (Qab) 66) ?_
 refine Qi λK0 k0=>?_
 refine Qa [0,1,2] ?_
 have⟨e0,h0,h⟩:=bs h
 have J0:∀(p0:List QQ) (y0:Value),p0=e0->To M w0 134 [(3,tv y0),(1,tptr (Qc.cs x_))] [own Qab 66 p0 y0] K0:=by
  intro p0 y0 he;subst he;refine k0 <|Qi λK1 k1=>Qa [0,1,2] ?_;have⟨e1,h1,h⟩:=bs h;have J1:∀(p1:List QQ) (y1:Value),p1=e1->To M w0 134 [(3,tv y1)] [own Qab 66 p1 y1] K1:=by
   intro p1 y1 he;subst he;refine k1 <|Qa [0,1,2] ?_;refine Qap ?_;refine Qae (by intro _ _ H;exact (H.Xn 1 rfl).pick [0]) ?_;obtain rfl:=sj h;exact Ql hpl
  refine Qm <|QaJ h1 (λ(s0:Int×List QQ) (y2:Value)=>[(10,ti s0.1),(3,tv y2),(1,tptr (Qc.cs x_))]) (λ(s0:Int×List QQ) (y2:Value)=>[own Qab 66 s0.2 y2]) y0 [0,1,2] ?_;clear h;intro s0 y2 o K2 h ho k2;refine Qi λ_ k3=>Qa [4,5,6,7] ?_;refine Qq h (λ_ h=>?_) (λ_ h=>?_)
  ·refine Qt <|k3 <|Qi λ_ k4=>Qm ?_;have⟨t0,_,h⟩:=bs h;refine QB [v1 5 (λv0=>box (Qk.cs zz3) v0),v1 5 (λv0=>box (Qk.cs t0) v0)] [6,7] [5,7,8,9] λm0=>?_;refine QN (λ_ _ H=>(((H.Xk [1,0] rfl).Xl 0 rfl).add 0 rfl (λ_ _ _ h=>h.2)).pick [0,3,4,5]) ?_;have⟨t1,_,h⟩:=bs h;refine Qa [4,5,6,7,8] ?_;have⟨_,h2,t2,_,h⟩:=bs2 h;replace h:=bk h2 h;have⟨t3,_,h⟩:=bs h;refine QB [v1 19 (λv0=>box (QaA.cs (QV.mk (0:Int) (0:Int) (0:Int))) v0),v1 19 (λv0=>box (QaA.cs (QV.mk t2 t3 t0.N)) v0)] [20,21] [19,20,21,22,23,24] λm1=>?_;refine QN (λ_ _ H=>(((H.Xk [1,0] rfl).Xl 0 rfl).add 0 rfl (λ_ _ _ h=>h.2)).pick [0,3,4,5,6,7]) ?_;have⟨_,h3,_,h4,h⟩:=bs2 h;intro a w H;refine wr mx [v1 8 (λv0=>own Qab 66 (s0.2++[(QQ.mk t1 (([114,117,108,101,58]:Str)++t0.Xj) (QV.mk t2 t3 t0.N))]) v0)] H (λ_=>.q 4 rfl<|.q 2 rfl<|.o (Q4 Qkh z4)<|.o (Q2 (u:=t0.Xj) tok9 z0 rfl)<|.o (Qcn .k z0 h3)<|.o (Q9 QsW z5)<|.p (T:=Qab.ty (QQ.mk t1 (([114,117,108,101,58]:Str)++t0.Xj) (QV.mk t2 t3 t0.N))) rfl (QaF underlying66 pl66 zv66 zc66 (.cons (R:=rI) (u:=t1) rfl z4 (leb rfl)<|.cons (R:=rS) (u:=(([114,117,108,101,58]:Str)++t0.Xj)) rfl z1 (leb rfl)<|.cons (R:=QaA) (u:=(QV.mk t2 t3 t0.N)) rfl z0 (leb rfl)<|.nil _))<|.o (Qak (R:=Qab) (us:=[(QQ.mk t1 (([114,117,108,101,58]:Str)++t0.Xj) (QV.mk t2 t3 t0.N))]) ud60 Qkx (.cons z0<|.nil _) rfl (leb rfl))<|.e [] [0] [1] rfl rfl rfl rfl (Qa3 (R:=Qab) ud60 Qkx (leb rfl) z7 z0 h4)<|.ud (f:=λv=>tv v) 8 rfl [] rfl rfl (Qp z0)<|.n) λm2 a w H=>?_;have H:=H.t4_1 [8,9,13,14];refine Qcz H ?_;refine k4 <|QL [2,3,4,5] ?_;exact QX k2 (m2 8) ((sj h).symm) [0,2,3]
  refine QP <|QX J1 y2 (ho _ (sj h).symm) [2]
 refine Qm <|QaJ h0 (λ(s1:Int×List QQ) (y3:Value)=>[(4,ti s1.1),(3,tv y3),(1,tptr (Qc.cs x_))]) (λ(s1:Int×List QQ) (y3:Value)=>[own Qab 66 s1.2 y3]) (.slice none 0 0) [0,1,2] ?_;clear h;intro s1 y3 o K3 h ho k5;refine Qi λ_ k6=>Qa [4,5,6,7] ?_;refine Qq h (λ_ h=>?_) (λ_ h=>?_)
 ·refine Qt <|k6 <|Qi λK4 k7=>Qm ?_;have⟨t4,_,h⟩:=bs h;refine QB [v1 5 (λv0=>box (Qg.cs zz1) v0),v1 5 (λv0=>box (Qg.cs t4) v0)] [6,7] [5,7,8,9] λm3=>?_;refine QN (λ_ _ H=>(((H.Xk [1,0] rfl).Xl 0 rfl).add 0 rfl (λ_ _ _ h=>h.2)).pick [0,3,4,5]) ?_;refine Qa [0,1,2,3,4] ?_;have⟨e2,h5,h⟩:=bs h;have J2:∀(p2:List QQ) (y4:Value),p2=e2->To M w0 134 [(4,ti s1.1),(3,tv y4),(1,tptr (Qc.cs x_))] [own Qab 66 p2 y4] K4:=by
   intro p2 y4 he;subst he;refine k7 <|QL [2,3,4] ?_;exact QX k5 y4 ((sj h).symm) [0,1,2]
  refine Qm <|QaJ h5 (λ(s2:Int×List QQ) (y5:Value)=>[(6,ti s2.1),(5,tptr (Qg.cs t4)),(4,ti s1.1),(3,tv y5),(1,tptr (Qc.cs x_))]) (λ(s2:Int×List QQ) (y5:Value)=>[own Qab 66 s2.2 y5]) y3 [0,1,2,3,4] ?_;clear h;intro s2 y5 o K5 h ho k8;refine Qi λ_ k9=>Qa [4,5,6,7,8,9] ?_;refine Qq h (λ_ h=>?_) (λ_ h=>?_)
  ·refine Qt <|k9 <|Qi λK6 k10=>?_;have⟨p3,h6,h⟩:=bs h;have J3:∀(y6:Value),To M w0 134 [(6,ti s2.1),(5,tptr (Qg.cs t4)),(4,ti s1.1),(3,tv y6),(1,tptr (Qc.cs x_))] [own Qab 66 p3 y6] K6:=by
    intro y6;refine k10 <|QL [2,3,4,5,6] ?_;exact QX k8 y6 ((sj h).symm) [0,1,2,3,4]
   replace h:=h6;clear h6;refine Qm ?_;have⟨t5,_,h⟩:=bs h;refine QB [v1 5 (λv0=>box (Qd.cs zz0) v0),v1 5 (λv0=>box (Qd.cs t5) v0)] [6,7] [5,7,8,9,10,11] λm4=>?_;refine QN (λ_ _ H=>(((H.Xk [1,0] rfl).Xl 0 rfl).add 0 rfl (λ_ _ _ h=>h.2)).pick [0,3,4,5,6,7]) ?_;refine tIfs h [7,8,9,10,11,12,13] (λ_ h=>?_) (λ_ h=>?_)
   ·refine QP ?_;obtain rfl:=sj h;exact QI (J3 y5) [2,3,4,5,6]
   refine Qa [0,2,3,4,5,6,7] ?_;refine Qi λK7 k11=>Qa [7,8,9,10,11,12,13,14] ?_;have⟨p4,h7,h⟩:=bs h;have J4:To M w0 134 [(8,ti p4),(7,tptr (Qd.cs t5)),(6,ti s2.1),(5,tptr (Qg.cs t4)),(4,ti s1.1),(3,tv y5),(1,tptr (Qc.cs x_))] [own Qab 66 s2.2 y5] K7:=by
    refine k11 ?_;have⟨_,_,_,_,h⟩:=bs2 h;refine Qa [6,7,8,9,10,11,12,13] ?_;have⟨_,h8,_,h9,h⟩:=bs2 h;intro a w H;refine sr mx [v1 12 (λv0=>own Qab 66 (s2.2++[(QQ.mk s1.1 (((t4.Xj++([46]:Str))++t5.Xj)++([32,108,111,119]:Str)) (QV.mk p4 s2.1 (i64.wrap (0 - t5.Lo))))]) v0)] H (λ_=>.q 6 rfl<|.q 6 rfl<|.q 2 rfl<|.o (Qcn z0 .k h8)<|.q 5 rfl<|.q 8 rfl<|.o (Q4 Qj6 z8)<|.o (Q2 (u:=t5.Lo) tok3 z0 rfl)<|.o (QnP z0)<|.p (T:=QaA.ty (QV.mk p4 s2.1 (i64.wrap (0 - t5.Lo)))) rfl (QaF underlying64 pl64 zv64 zc64 (.cons (R:=rI) (u:=p4) rfl z4 (leb rfl)<|.cons (R:=rI) (u:=s2.1) rfl z3 (leb rfl)<|.cons (R:=rI) (u:=(i64.wrap (0 - t5.Lo))) rfl z0 (leb rfl)<|.nil _))<|.p (T:=Qab.ty (QQ.mk s1.1 (((t4.Xj++([46]:Str))++t5.Xj)++([32,108,111,119]:Str)) (QV.mk p4 s2.1 (i64.wrap (0 - t5.Lo))))) rfl (QaF underlying66 pl66 zv66 zc66 (.cons (R:=rI) (u:=s1.1) rfl z8 (leb rfl)<|.cons (R:=rS) (u:=(((t4.Xj++([46]:Str))++t5.Xj)++([32,108,111,119]:Str))) rfl z6 (leb rfl)<|.cons (R:=QaA) (u:=(QV.mk p4 s2.1 (i64.wrap (0 - t5.Lo)))) rfl z0 (leb rfl)<|.nil _))<|.o (Qak (R:=Qab) (us:=[(QQ.mk s1.1 (((t4.Xj++([46]:Str))++t5.Xj)++([32,108,111,119]:Str)) (QV.mk p4 s2.1 (i64.wrap (0 - t5.Lo))))]) ud60 Qkx (.cons z0<|.nil _) rfl (leb rfl))<|.e [] [0] [1] rfl rfl rfl rfl (Qa3 (R:=Qab) ud60 Qkx (leb rfl) z11 z0 h9)<|.ud (f:=λv=>tv v) 12 rfl [] rfl rfl (Qp z0)<|.n) λ_ a w H=>?_;have H:=H.to [12,13,14,15,16,17,18,19,20] [_,_,_,_,_,_,_,_,_] [_] rfl rfl;refine Q8 H ?_;have⟨_,h10,_,h11,h⟩:=bs2 h;intro a w H;refine wr mx [v1 11 (λv0=>own Qab 66 ((s2.2++[(QQ.mk s1.1 (((t4.Xj++([46]:Str))++t5.Xj)++([32,108,111,119]:Str)) (QV.mk p4 s2.1 (i64.wrap (0 - t5.Lo))))])++[(QQ.mk s1.1 (((t4.Xj++([46]:Str))++t5.Xj)++([32,104,105,103,104]:Str)) (QV.mk s2.1 p4 t5.Hi))]) v0)] H (λ_=>.q 1 rfl<|.q 8 rfl<|.q 4 rfl<|.o (Qcn z0 .k h10)<|.q 9 rfl<|.q 8 rfl<|.o (Q4 Qj7 z10)<|.o (Q2 (u:=t5.Hi) tok3 z0 rfl)<|.p (T:=QaA.ty (QV.mk s2.1 p4 t5.Hi)) rfl (QaF underlying64 pl64 zv64 zc64 (.cons (R:=rI) (u:=s2.1) rfl z3 (leb rfl)<|.cons (R:=rI) (u:=p4) rfl z2 (leb rfl)<|.cons (R:=rI) (u:=t5.Hi) rfl z0 (leb rfl)<|.nil _))<|.p (T:=Qab.ty (QQ.mk s1.1 (((t4.Xj++([46]:Str))++t5.Xj)++([32,104,105,103,104]:Str)) (QV.mk s2.1 p4 t5.Hi))) rfl (QaF underlying66 pl66 zv66 zc66 (.cons (R:=rI) (u:=s1.1) rfl z7 (leb rfl)<|.cons (R:=rS) (u:=(((t4.Xj++([46]:Str))++t5.Xj)++([32,104,105,103,104]:Str))) rfl z5 (leb rfl)<|.cons (R:=QaA) (u:=(QV.mk s2.1 p4 t5.Hi)) rfl z0 (leb rfl)<|.nil _))<|.o (Qak (R:=Qab) (us:=[(QQ.mk s1.1 (((t4.Xj++([46]:Str))++t5.Xj)++([32,104,105,103,104]:Str)) (QV.mk s2.1 p4 t5.Hi))]) ud60 Qkx (.cons z0<|.nil _) rfl (leb rfl))<|.e [] [0] [1] rfl rfl rfl rfl (Qa3 (R:=Qab) ud60 Qkx (leb rfl) z10 z0 h11)<|.ud (f:=λv=>tv v) 11 rfl [] rfl rfl (Qp z0)<|.n) λm5 a w H=>?_;have H:=H.to [11,12,17,18,19,20] [_,_,_,_,_,_] [_] rfl rfl;refine Qcz H ?_;obtain rfl:=sj h;exact QI (J3 (m5 11)) [2,3,4,1,5]
   replace h:=h7;clear h7;refine Qq h (λ_ h=>?_) (λ_ h=>?_)
   ·have⟨_,_,h⟩:=bs h;refine QL [4,6,7,8,9,10,11] ?_;obtain rfl:=sj h;exact QI J4 [0,1,2,3,4,5,6]
   refine Qt ?_;obtain rfl:=sj h;exact QI J4 [1,2,3,4,5,6,7]
  refine QP <|QX J2 y5 (ho _ (sj h).symm) [3,4,5]
 refine QP <|QX J0 y3 (ho _ (sj h).symm) [2,3]
def QfA (x_:Qe):Option ((List Str)×Int):=(Qfz x_).bind λt0=>(if (t0 !=0)=true then (some (([]:List Str),t0)) else (Qgp x_).bind λt1=>(QgW x_).bind λt2=>(Qu (λ(s0:Int×List Str)=>((if (decide (s0.1<(t2.length:Int)))=true then (idx t2 s0.1).bind λt3=>(rm (s0.2.length+[t3.Xj].length)).bind λ_=>(some (.inl ((i64.wrap (s0.1+1)),(s0.2++[t3.Xj])))) else (some (.inr s0.2))):Option ((Int×List Str)⊕((List Str))))) ((0:Int),t1.2.1)).bind λp0=>(some (p0,(0:Int))))
instance QzN:Spc1 prog 16 QfA (λx_=>[Qc.ty x_]) (λr=>ttup [tsl rS r.1,ti r.2]):=.mk λ{x_ r} h=>by
 unfold QfA at h
 refine Fe func16 ntmps16 λM0 M w0 hpl=>?_
 refine Qa [0] ?_
 have⟨_,_,h⟩:=bs h
 refine Qa [2,3] ?_
 refine tIfs h [1,2,3] (λ_ h=>?_) (λ_ h=>?_)
 ·refine Qa [1,2] ?_
  exact Qo h (·▸Ql hpl)
 have⟨t0,h0,h⟩:=bs h
 intro a w H
 refine sr mx [v1 1 (λv0=>own rS 9 t0.2.1 v0)] H (λ_=>.o (Q9 QbJ z2)<|.m [] [0] rfl rfl rfl (QJ Quz (Qoj.ok h0) (.cons (.of z0)<|.nil))<|.ud (f:=λv=>ttup [tsl QaS t0.1,tv v,ti t0.2.2]) 1 rfl [] rfl rfl (Qar z0)<|.o (Qam z0 rfl)<|.ud (f:=λv=>tv v) 1 rfl [] rfl rfl (Qam z1 rfl)<|.o (Qam z2 rfl)<|.o (Qp z2)<|.ud (f:=λv=>tv v) 1 rfl [] rfl rfl (Qp z2)<|.o (Qp z2)<|.n) λm0 a w H=>?_
 have H:=H.to [4,7,11] [_,_,_] [_] rfl rfl
 refine Q8 H ?_
 have⟨t1,_,h⟩:=bs h
 refine Qa [2,3,4] ?_
 refine Qi λK0 k0=>?_
 refine Qa [0,1,2,3] ?_
 have⟨e0,h1,h⟩:=bs h
 have J0:∀(p0:List Str) (y0:Value),p0=e0->To M w0 38 [(6,tv y0)] [own rS 9 p0 y0] K0:=by
  intro p0 y0 he;subst he;refine k0 <|Qa [0,1,2,3] ?_;refine Qap ?_;refine Qae (by intro _ _ H;exact (H.Xn 1 rfl).pick [0,3]) ?_;obtain rfl:=sj h;exact Ql hpl
 refine Qm <|QaJ h1 (λ(s0:Int×List Str) (y1:Value)=>[(9,ti s0.1),(8,tsl Qab t1),(6,tv y1)]) (λ(s0:Int×List Str) (y1:Value)=>[own rS 9 s0.2 y1]) (m0 1) [0,1,3] ?_;clear h;intro s0 y1 o K1 h ho k1;refine Qi λ_ k2=>Qa [3,4,5,6] ?_;refine Qq h (λ_ h=>?_) (λ_ h=>?_)
 ·refine Qt <|k2 <|Qi λ_ k3=>Qm ?_;have⟨t2,_,_,_,h⟩:=bs2 h;refine Qah [v1 7 (λv0=>own rS 9 (s0.2++[t2.Xj]) v0)] [8] [7,8,10,11] λm1=>?_;refine k3 <|QL [2,3,4,5] ?_;exact QX k1 (m1 7) ((sj h).symm) [0,3,2]
 refine QP <|QX J0 y1 (ho _ (sj h).symm) [3]
