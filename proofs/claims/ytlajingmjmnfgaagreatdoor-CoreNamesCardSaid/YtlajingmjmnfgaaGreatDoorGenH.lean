/- The walk. No condition. -/
import Derived.Test.YtlajingmjmnfgaaGreatDoorGenG
set_option linter.all false
open Go.Proofs.Tryz Go.IntKind
namespace Go.Proofs.YtlajingmjmnfgaaGreatDoor
noncomputable section
open Go.Sim
set_option maxRecDepth 100000
set_option maxHeartbeats 4000000
def Qgo (x_:Qe):Option (Str):=(QbG ([115,99,104,101,109,97]:Str) x_.Version).bind λt0=>(Qu (λ(s0:Int×Str)=>((if (decide (s0.1<(x_.Xa.length:Int)))=true then (idx x_.Xa s0.1).bind λt1=>(cat (s0.2.length+([10,107,105,110,100,32]:Str).length)).bind λ_=>(cat ((s0.2++([10,107,105,110,100,32]:Str)).length+t1.Xj.length)).bind λ_=>(QbG ((s0.2++([10,107,105,110,100,32]:Str))++t1.Xj) t1.Lo).bind λt2=>(QbG t2 t1.Hi).bind λt3=>(Qu (λ(s1:Int×Str)=>((if (decide (s1.1<(t1.Xb.length:Int)))=true then (idx t1.Xb s1.1).bind λt4=>(QaD t4).bind λt5=>(cat (s1.2.length+t5.length)).bind λ_=>(some (.inl ((i64.wrap (s1.1+1)),(s1.2++t5)))) else (some (.inr s1.2))):Option ((Int×Str)⊕((Str))))) ((0:Int),t3)).bind λp0=>(some (.inl ((i64.wrap (s0.1+1)),p0))) else (some (.inr s0.2))):Option ((Int×Str)⊕((Str))))) ((0:Int),t0)).bind λp1=>(Qu (λ(s2:Int×Str)=>((if (decide (s2.1<(x_.Xd.length:Int)))=true then (idx x_.Xd s2.1).bind λt6=>(cat (s2.2.length+([10,108,105,102,101,32]:Str).length)).bind λ_=>(cat ((s2.2++([10,108,105,102,101,32]:Str)).length+t6.Xj.length)).bind λ_=>(QbG ((s2.2++([10,108,105,102,101,32]:Str))++t6.Xj) (t6.Xe.length:Int)).bind λt7=>(Qu (λ(s3:Int×Str)=>((if (decide (s3.1<(t6.Xe.length:Int)))=true then (cat (s3.2.length+([32]:Str).length)).bind λ_=>(idx t6.Xe s3.1).bind λt8=>(cat ((s3.2++([32]:Str)).length+t8.length)).bind λ_=>(some (.inl ((i64.wrap (s3.1+1)),((s3.2++([32]:Str))++t8)))) else (some (.inr s3.2))):Option ((Int×Str)⊕((Str))))) ((0:Int),t7)).bind λp2=>(Qu (λ(s4:Int×Str)=>((if (decide (s4.1<(t6.Xg.length:Int)))=true then (cat (s4.2.length+([10,109,111,118,101]:Str).length)).bind λ_=>(idx t6.Xg s4.1).bind λt9=>(QbG (s4.2++([10,109,111,118,101]:Str)) t9.a0).bind λt10=>(idx t6.Xg s4.1).bind λt11=>(QbG t10 t11.a1).bind λt12=>(some (.inl ((i64.wrap (s4.1+1)),t12))) else (some (.inr s4.2))):Option ((Int×Str)⊕((Str))))) ((0:Int),p2)).bind λp3=>(some (.inl ((i64.wrap (s2.1+1)),p3))) else (some (.inr s2.2))):Option ((Int×Str)⊕((Str))))) ((0:Int),p1)).bind λp4=>(Qu (λ(s5:Int×Str)=>((if (decide (s5.1<(x_.Xc.length:Int)))=true then (idx x_.Xc s5.1).bind λt13=>(cat (s5.2.length+([10,114,117,108,101,32]:Str).length)).bind λ_=>(cat ((s5.2++([10,114,117,108,101,32]:Str)).length+t13.Xj.length)).bind λ_=>(cat (((s5.2++([10,114,117,108,101,32]:Str))++t13.Xj).length+([32]:Str).length)).bind λ_=>(cat ((((s5.2++([10,114,117,108,101,32]:Str))++t13.Xj)++([32]:Str)).length+t13.Xi.length)).bind λ_=>(cat (((((s5.2++([10,114,117,108,101,32]:Str))++t13.Xj)++([32]:Str))++t13.Xi).length+([32]:Str).length)).bind λ_=>(QeN t13.A).bind λt14=>(cat ((((((s5.2++([10,114,117,108,101,32]:Str))++t13.Xj)++([32]:Str))++t13.Xi)++([32]:Str)).length+t14.length)).bind λ_=>(cat (((((((s5.2++([10,114,117,108,101,32]:Str))++t13.Xj)++([32]:Str))++t13.Xi)++([32]:Str))++t14).length+([32]:Str).length)).bind λ_=>(QeN t13.B).bind λt15=>(cat ((((((((s5.2++([10,114,117,108,101,32]:Str))++t13.Xj)++([32]:Str))++t13.Xi)++([32]:Str))++t14)++([32]:Str)).length+t15.length)).bind λ_=>(QbG ((((((((s5.2++([10,114,117,108,101,32]:Str))++t13.Xj)++([32]:Str))++t13.Xi)++([32]:Str))++t14)++([32]:Str))++t15) t13.N).bind λt16=>(some (.inl ((i64.wrap (s5.1+1)),t16))) else (some (.inr s5.2))):Option ((Int×Str)⊕((Str))))) ((0:Int),p4)).bind λp5=>(cat (p5.length+([10]:Str).length)).bind λ_=>(some (p5++([10]:Str)))
instance Qxt:Spc1 prog 189 Qgo (λx_=>[Qc.ty x_]) (λr=>tv (.string (sB r))):=.mk λ{x_ r} h=>by
 unfold Qgo at h
 refine Fe func189 ntmps189 λM0 M w0 hpl=>?_
 refine Qa [0] ?_
 have⟨_,_,h⟩:=bs h
 refine Qa [3,4] ?_
 refine Qi λK0 k0=>?_
 refine Qa [0,1,2] ?_
 have⟨e0,h0,h⟩:=bs h
 have J0:∀(p0:Str),p0=e0->To M w0 149 [(3,tv (.string (sB p0))),(1,tptr (Qc.cs x_))] [] K0:=by
  intro p0 he;subst he;refine k0 <|Qi λK1 k1=>Qa [0,1,2] ?_;have⟨e1,h1,h⟩:=bs h;have J1:∀(p1:Str),p1=e1->To M w0 149 [(3,tv (.string (sB p1))),(1,tptr (Qc.cs x_))] [] K1:=by
   intro p1 he;subst he;refine k1 <|Qi λK2 k2=>Qa [0,1,2] ?_;have⟨e2,h2,h⟩:=bs h;have J2:∀(p2:Str),p2=e2->To M w0 149 [(3,tv (.string (sB p2)))] [] K2:=by
    intro p2 he;subst he;refine k2 ?_;have⟨_,_,h⟩:=bs h;refine Qa [2] ?_;exact Qo h (·▸Ql hpl)
   refine Qm <|Qan h2 (λ(s0:Int×Str)=>[(11,ti s0.1),(3,tv (.string (sB s0.2))),(1,tptr (Qc.cs x_))]) (λ(s0:Int×Str)=>[]) [0,1,2] ?_;clear h;intro s0 o K3 h ho k3;refine Qi λ_ k4=>Qa [4,5,6,7] ?_;refine Qq h (λ_ h=>?_) (λ_ h=>?_)
   ·refine Qt <|k4 <|Qi λ_ k5=>Qm ?_;have⟨t0,_,h⟩:=bs h;refine QB [v1 5 (λv0=>box (Qk.cs zz3) v0),v1 5 (λv0=>box (Qk.cs t0) v0)] [6,7] [5,7,8,9] λm0=>?_;refine QN (λ_ _ H=>((H.Xl 0 rfl).add 0 rfl (λ_ _ _ h=>h.2)).pick [0,3,4,5]) ?_;have⟨_,_,_,_,_,_,_,_,h⟩:=bs4 h;have⟨_,_,_,_,_,_,_,_,h⟩:=bs4 h;have⟨_,_,_,_,_,_,h⟩:=bs3 h;refine QL [22,24,25] ?_;refine k5 <|QL [2,3,4] ?_;exact Qz k3 ((sj h).symm) [0,1,2]
   refine QP <|Qz J2 (ho _ (sj h).symm) [2]
  refine Qm <|Qan h1 (λ(s1:Int×Str)=>[(7,ti s1.1),(3,tv (.string (sB s1.2))),(1,tptr (Qc.cs x_))]) (λ(s1:Int×Str)=>[]) [0,1,2] ?_;clear h;intro s1 o K4 h ho k6;refine Qi λ_ k7=>Qa [4,5,6,7] ?_;refine Qq h (λ_ h=>?_) (λ_ h=>?_)
  ·refine Qt <|k7 <|Qi λK5 k8=>Qm ?_;have⟨t1,_,h⟩:=bs h;refine QB [v1 5 (λv0=>box (Qn.cs zz2) v0),v1 5 (λv0=>box (Qn.cs t1) v0)] [6,7] [5,7,8,9] λm1=>?_;refine QN (λ_ _ H=>((H.Xl 0 rfl).add 0 rfl (λ_ _ _ h=>h.2)).pick [0,3,4,5]) ?_;have⟨_,_,_,_,_,_,h⟩:=bs3 h;refine Qa [9,10,11,12] ?_;refine Qi λK6 k9=>Qa [0,1,2,3,4] ?_;have⟨e3,h3,h⟩:=bs h;have J3:∀(p3:Str),p3=e3->To M w0 149 [(3,tv (.string (sB p3))),(8,tptr (Qn.cs t1)),(7,ti s1.1),(1,tptr (Qc.cs x_))] [] K6:=by
    intro p3 he;subst he;refine k9 <|Qa [0,1,2,3,4] ?_;have⟨e4,h4,h⟩:=bs h;have J4:∀(p4:Str),p4=e4->To M w0 149 [(3,tv (.string (sB p4))),(7,ti s1.1),(1,tptr (Qc.cs x_))] [] K5:=by
     intro p4 he;subst he;refine k8 <|QL [2,3,4] ?_;exact Qz k6 ((sj h).symm) [0,1,2]
    refine Qm <|Qan h4 (λ(s2:Int×Str)=>[(10,ti s2.1),(3,tv (.string (sB s2.2))),(8,tptr (Qn.cs t1)),(7,ti s1.1),(1,tptr (Qc.cs x_))]) (λ(s2:Int×Str)=>[]) [0,1,2,3,4] ?_;clear h;intro s2 o K7 h ho k10;refine Qi λ_ k11=>Qa [4,5,6,7,8,9] ?_;refine Qq h (λ_ h=>?_) (λ_ h=>?_)
    ·refine Qt <|k11 <|Qi λ_ k12=>Qm ?_;have⟨_,_,_,h5,_,_,h⟩:=bs3 h;replace h:=bk h5 h;have⟨_,_,h⟩:=bs h;refine QL [16,18,19,20,21] ?_;refine k12 <|QL [2,3,4,5,6] ?_;exact Qz k10 ((sj h).symm) [0,1,2,3,4]
    refine QP <|Qz J4 (ho _ (sj h).symm) [2,4,5]
   refine Qm <|Qan h3 (λ(s3:Int×Str)=>[(9,ti s3.1),(3,tv (.string (sB s3.2))),(8,tptr (Qn.cs t1)),(7,ti s1.1),(1,tptr (Qc.cs x_))]) (λ(s3:Int×Str)=>[]) [0,1,2,3,4] ?_;clear h;intro s3 o K8 h ho k13;refine Qi λ_ k14=>Qa [4,5,6,7,8,9] ?_;refine Qq h (λ_ h=>?_) (λ_ h=>?_)
   ·refine Qt <|k14 <|Qi λ_ k15=>Qm ?_;have⟨_,_,_,_,_,_,h⟩:=bs3 h;refine QL [8,10,11,12,13] ?_;refine k15 <|QL [2,3,4,5,6] ?_;exact Qz k13 ((sj h).symm) [0,1,2,3,4]
   refine QP <|Qz J3 (ho _ (sj h).symm) [2,3,4,5]
  refine QP <|Qz J1 (ho _ (sj h).symm) [2,3]
 refine Qm <|Qan h0 (λ(s4:Int×Str)=>[(4,ti s4.1),(3,tv (.string (sB s4.2))),(1,tptr (Qc.cs x_))]) (λ(s4:Int×Str)=>[]) [0,1,2] ?_;clear h;intro s4 o K9 h ho k16;refine Qi λ_ k17=>Qa [4,5,6,7] ?_;refine Qq h (λ_ h=>?_) (λ_ h=>?_)
 ·refine Qt <|k17 <|Qi λK10 k18=>Qm ?_;have⟨t2,_,h⟩:=bs h;refine QB [v1 5 (λv0=>box (Qg.cs zz1) v0),v1 5 (λv0=>box (Qg.cs t2) v0)] [6,7] [5,7,8,9] λm2=>?_;refine QN (λ_ _ H=>((H.Xl 0 rfl).add 0 rfl (λ_ _ _ h=>h.2)).pick [0,3,4,5]) ?_;have⟨_,_,_,_,_,_,_,_,h⟩:=bs4 h;refine Qa [11,12,13,14] ?_;refine Qa [0,1,2,3,4] ?_;have⟨e5,h6,h⟩:=bs h;have J5:∀(p5:Str),p5=e5->To M w0 149 [(3,tv (.string (sB p5))),(4,ti s4.1),(1,tptr (Qc.cs x_))] [] K10:=by
   intro p5 he;subst he;refine k18 <|QL [2,3,4] ?_;exact Qz k16 ((sj h).symm) [0,1,2]
  refine Qm <|Qan h6 (λ(s5:Int×Str)=>[(6,ti s5.1),(3,tv (.string (sB s5.2))),(5,tptr (Qg.cs t2)),(4,ti s4.1),(1,tptr (Qc.cs x_))]) (λ(s5:Int×Str)=>[]) [0,1,2,3,4] ?_;clear h;intro s5 o K11 h ho k19;refine Qi λ_ k20=>Qa [4,5,6,7,8,9] ?_;refine Qq h (λ_ h=>?_) (λ_ h=>?_)
  ·refine Qt <|k20 <|Qi λ_ k21=>Qm ?_;have⟨_,_,_,_,_,_,h⟩:=bs3 h;refine QL [8,10,11,12,13] ?_;refine k21 <|QL [2,3,4,5,6] ?_;exact Qz k19 ((sj h).symm) [0,1,2,3,4]
  refine QP <|Qz J5 (ho _ (sj h).symm) [2,4,5]
 refine QP <|Qz J0 (ho _ (sj h).symm) [2,3]
def QgQ (x_:Qe):Option (Int):=(QaT x_.Version 0 1048576).bind λt0=>(if ((((!t0)||(decide ((x_.Xa.length:Int)>6)))||(decide ((x_.Xd.length:Int)>6)))||(decide ((x_.Xc.length:Int)>16)))=true then (some (1:Int)) else (Qu (λ(s0:Int)=>((if (decide (s0<(x_.Xa.length:Int)))=true then (idx x_.Xa s0).bind λt1=>(Qgl t1).bind λt2=>(if (!t2)=true then (some (.inr (.inr (1:Int)))) else (some (.inl (i64.wrap (s0+1))))) else (some (.inr (.inl ())))):Option ((Int)⊕((Unit)⊕(Int))))) (0:Int)).bind λe0=>(match e0 with | .inl _=>(Qu (λ(s1:Int)=>((if (decide (s1<(x_.Xd.length:Int)))=true then (idx x_.Xd s1).bind λt3=>(Qgm t3).bind λt4=>(if (!t4)=true then (some (.inr (.inr (1:Int)))) else (some (.inl (i64.wrap (s1+1))))) else (some (.inr (.inl ())))):Option ((Int)⊕((Unit)⊕(Int))))) (0:Int)).bind λe1=>(match e1 with | .inl _=>(Qu (λ(s2:Int)=>((if (decide (s2<(x_.Xc.length:Int)))=true then (idx x_.Xc s2).bind λt5=>(Qgn t5).bind λt6=>(if (!t6)=true then (some (.inr (.inr (1:Int)))) else (some (.inl (i64.wrap (s2+1))))) else (some (.inr (.inl ())))):Option ((Int)⊕((Unit)⊕(Int))))) (0:Int)).bind λe2=>(match e2 with | .inl _=>(Qgo x_).bind λt7=>(if (decide ((t7.length:Int)>8192))=true then (some (4:Int)) else (some (0:Int))) | .inr p0=>(some p0)) | .inr p1=>(some p1)) | .inr p2=>(some p2)))
instance QzE:Spc1 prog 146 QgQ (λx_=>[Qc.ty x_]) ti:=.mk λ{x_ r} h=>by
 unfold QgQ at h
 refine Fe func146 ntmps146 λM0 M w0 hpl=>?_
 refine Qa [0] ?_
 have⟨_,_,h⟩:=bs h
 refine tIfs h [21,22] (λ_ h=>?_) (λ_ h=>?_)
 ·refine Qa [0] ?_
  exact Qo h (·▸Ql hpl)
 refine Qi λK0 k0=>?_
 refine Qa [0,2] ?_
 have⟨e0,h0,h⟩:=bs h
 have J0:∀(p0:Unit),(.inl p0)=e0->To M w0 74 [(1,tptr (Qc.cs x_))] [] K0:=by
  intro p0 he;subst he;simp only at h;refine k0 <|Qi λK1 k1=>Qa [0,1] ?_;have⟨e1,h1,h⟩:=bs h;have J1:∀(p1:Unit),(.inl p1)=e1->To M w0 74 [(1,tptr (Qc.cs x_))] [] K1:=by
   intro p1 he;subst he;simp only at h;refine k1 <|Qi λK2 k2=>Qa [0,1] ?_;have⟨e2,h2,h⟩:=bs h;have J2:∀(p2:Unit),(.inl p2)=e2->To M w0 74 [(1,tptr (Qc.cs x_))] [] K2:=by
    intro p2 he;subst he;simp only at h;refine k2 ?_;have⟨_,_,h⟩:=bs h;refine tIfs h [3] (λ_ h=>?_) (λ_ h=>?_)
    ·refine Qa [0] ?_;exact Qo h (·▸Ql hpl)
    refine Qa [0] ?_;exact Qo h (·▸Ql hpl)
   have J3:∀(p3:Int),(.inr p3)=e2->To M w0 74 [(2,ti p3)] [] (Ret prog f146 M0 [] w0 (λ_=>[]) (λ_=>ti r) .ret):=by
    intro p3 he;subst he;simp only at h;obtain rfl:=sj h;exact Ql hpl
   refine Qm <|Qan h2 (λ(s0:Int)=>[(5,ti s0),(1,tptr (Qc.cs x_))]) (λ(s0:Int)=>[]) [0,1] ?_;clear h;intro s0 o K3 h ho k3;refine Qi λ_ k4=>Qa [4,5,6] ?_;refine Qq h (λ_ h=>?_) (λ_ h=>?_)
   ·refine Qt <|k4 <|Qi λ_ k5=>Qm ?_;have⟨_,_,_,_,h⟩:=bs2 h;refine Qa [6,8,9] ?_;refine Qq h (λ_ h=>?_) (λ_ h=>?_)
    ·refine Qa [0] ?_;refine Qap ?_;exact Qz J3 (ho _ (sj h).symm) [0]
    refine Qt <|k5 <|QL [2,4] ?_;exact Qz k3 ((sj h).symm) [0,1]
   refine QP <|Qz J2 (ho _ (sj h).symm) [2]
  have J4:∀(p4:Int),(.inr p4)=e1->To M w0 74 [(2,ti p4)] [] (Ret prog f146 M0 [] w0 (λ_=>[]) (λ_=>ti r) .ret):=by
   intro p4 he;subst he;simp only at h;obtain rfl:=sj h;exact Ql hpl
  refine Qm <|Qan h1 (λ(s1:Int)=>[(4,ti s1),(1,tptr (Qc.cs x_))]) (λ(s1:Int)=>[]) [0,1] ?_;clear h;intro s1 o K4 h ho k6;refine Qi λ_ k7=>Qa [4,5,6] ?_;refine Qq h (λ_ h=>?_) (λ_ h=>?_)
  ·refine Qt <|k7 <|Qi λ_ k8=>Qm ?_;have⟨_,_,_,_,h⟩:=bs2 h;refine Qa [6,8,9] ?_;refine Qq h (λ_ h=>?_) (λ_ h=>?_)
   ·refine Qa [0] ?_;refine Qap ?_;exact Qz J4 (ho _ (sj h).symm) [0]
   refine Qt <|k8 <|QL [2,4] ?_;exact Qz k6 ((sj h).symm) [0,1]
  refine QP <|Qz J1 (ho _ (sj h).symm) [2]
 have J5:∀(p5:Int),(.inr p5)=e0->To M w0 74 [(2,ti p5)] [] (Ret prog f146 M0 [] w0 (λ_=>[]) (λ_=>ti r) .ret):=by
  intro p5 he;subst he;simp only at h;obtain rfl:=sj h;exact Ql hpl
 refine Qm <|Qan h0 (λ(s2:Int)=>[(3,ti s2),(1,tptr (Qc.cs x_))]) (λ(s2:Int)=>[]) [0,1] ?_;clear h;intro s2 o K5 h ho k9;refine Qi λ_ k10=>Qa [4,5,6] ?_;refine Qq h (λ_ h=>?_) (λ_ h=>?_)
 ·refine Qt <|k10 <|Qi λ_ k11=>Qm ?_;have⟨_,_,_,_,h⟩:=bs2 h;refine Qa [6,8,9] ?_;refine Qq h (λ_ h=>?_) (λ_ h=>?_)
  ·refine Qa [0] ?_;refine Qap ?_;exact Qz J5 (ho _ (sj h).symm) [0]
  refine Qt <|k11 <|QL [2,4] ?_;exact Qz k9 ((sj h).symm) [0,1]
 refine QP <|Qz J0 (ho _ (sj h).symm) [2]
def Qcq (l_:(List QG)) (kind_:Int) (field_:Int) (rule_:Int) (e_:Int):Option ((List QG)):=(if (e_==0)=true then (some l_) else (rm (l_.length+[(QG.mk kind_ field_ rule_ e_)].length)).bind λ_=>(some (l_++[(QG.mk kind_ field_ rule_ e_)])))
instance QAo:SpcS prog 147 (∀{vh0:Value} {l_:(List QG)} {kind_:Int} {field_:Int} {rule_:Int} {e_:Int} {r:(List QG)},Qcq l_ kind_ field_ rule_ e_=some r->FnOk prog 147 [tv vh0,ti kind_,ti field_,ti rule_,ti e_] [own Q0 182 l_ vh0] (λv=>[own Q0 182 r v]) (λv=>tv v)):=.mk λ{vh0 l_ kind_ field_ rule_ e_ r} h=>by
 unfold Qcq at h
 refine Fe func147 ntmps147 λM0 M w0 hpl=>?_
 refine Qa [1,2,3,4,5] ?_
 refine tIfs h [1,2,3,4,5,6] (λ_ h=>?_) (λ_ h=>?_)
 ·refine Qa [0,1,3] ?_
  exact Qo h (·▸QbR vh0 [0] hpl)
 have⟨_,_,h⟩:=bs h
 refine QB [v1 7 (λv0=>own Q0 182 (l_++[(QG.mk kind_ field_ rule_ e_)]) v0)] [8] [7,8] λm0=>?_
 exact Qo h (·▸QbR (m0 7) [0] hpl)
def Qck (x_:Qe) (name_:Str):Option (Int):=(Qu (λ(s0:Int)=>((if (decide (s0<(x_.Xa.length:Int)))=true then (idx x_.Xa s0).bind λt0=>(if (t0.Xj==name_)=true then (some (.inr (.inr s0))) else (some (.inl (i64.wrap (s0+1))))) else (some (.inr (.inl ())))):Option ((Int)⊕((Unit)⊕(Int))))) (0:Int)).bind λe0=>(match e0 with | .inl _=>(some (-1:Int)) | .inr p0=>(some p0))
instance QAi:Spc2 prog 86 Qck (λx_ name_=>[Qc.ty x_,tv (.string (sB name_))]) ti:=.mk λ{x_ name_ r} h=>by
 unfold Qck at h
 refine Fe func86 ntmps86 λM0 M w0 hpl=>?_
 refine Qa [0,3] ?_
 refine Qi λK0 k0=>?_
 refine Qa [0,1,2] ?_
 have⟨e0,h0,h⟩:=bs h
 have J0:∀(p0:Unit),(.inl p0)=e0->To M w0 22 [] [] K0:=by
  intro p0 he;subst he;simp only at h;refine k0 <|Qa [0] ?_;exact Qo h (·▸Ql hpl)
 have J1:∀(p1:Int),(.inr p1)=e0->To M w0 22 [(4,ti p1)] [] (Ret prog f86 M0 [] w0 (λ_=>[]) (λ_=>ti r) .ret):=by
  intro p1 he;subst he;simp only at h;obtain rfl:=sj h;exact Ql hpl
 refine Qm <|Qan h0 (λ(s0:Int)=>[(5,ti s0),(2,tptr (Qc.cs x_)),(1,tv (.string (sB name_)))]) (λ(s0:Int)=>[]) [0,1,2] ?_;clear h;intro s0 o K1 h ho k1;refine Qi λ_ k2=>Qa [4,5,6,7] ?_;refine Qq h (λ_ h=>?_) (λ_ h=>?_)
 ·refine Qt <|k2 <|Qi λ_ k3=>Qm ?_;have⟨_,_,h⟩:=bs h;refine Qa [7,9,10,11] ?_;refine Qq h (λ_ h=>?_) (λ_ h=>?_)
  ·refine Qa [1] ?_;refine Qap ?_;exact Qz J1 (ho _ (sj h).symm) [0]
  refine Qt <|k3 <|QL [2,4,5] ?_;exact Qz k1 ((sj h).symm) [0,1,2]
 refine QP <|Qz J0 (ho _ (sj h).symm) []
def QgR (l_:(List Qb)):Option (Bool):=(if ((l_.length:Int)==0)=true then (some false) else (idx l_ 0).bind λt0=>(some (t0.Xi==0)))
instance QzF:Spc1 prog 148 QgR (λl_=>[tsl Qd l_]) tb:=.mk λ{l_ r} h=>by
 unfold QgR at h
 refine Fe func148 ntmps148 λM0 M w0 hpl=>?_
 refine Qa [1] ?_
 refine tIfs h [2,3] (λ_ h=>?_) (λ_ h=>?_)
 ·refine Qa [0] ?_
  exact Qo h (·▸Ql hpl)
 have⟨_,_,h⟩:=bs h
 refine Qa [5] ?_
 exact Qo h (·▸Ql hpl)
def Qbu (k_:Qf) (name_:Str):Option (Int):=(Qu (λ(s0:Int)=>((if (decide (s0<(k_.Xb.length:Int)))=true then (idx k_.Xb s0).bind λt0=>(if (t0.Xj==name_)=true then (some (.inr (.inr s0))) else (some (.inl (i64.wrap (s0+1))))) else (some (.inr (.inl ())))):Option ((Int)⊕((Unit)⊕(Int))))) (0:Int)).bind λe0=>(match e0 with | .inl _=>(some (-1:Int)) | .inr p0=>(some p0))
instance QzG:Spc2 prog 85 Qbu (λk_ name_=>[Qg.ty k_,tv (.string (sB name_))]) ti:=.mk λ{k_ name_ r} h=>by
 unfold Qbu at h
 refine Fe func85 ntmps85 λM0 M w0 hpl=>?_
 refine Qa [0,3] ?_
 refine Qi λK0 k0=>?_
 refine Qa [0,1,2] ?_
 have⟨e0,h0,h⟩:=bs h
 have J0:∀(p0:Unit),(.inl p0)=e0->To M w0 22 [] [] K0:=by
  intro p0 he;subst he;simp only at h;refine k0 <|Qa [0] ?_;exact Qo h (·▸Ql hpl)
 have J1:∀(p1:Int),(.inr p1)=e0->To M w0 22 [(4,ti p1)] [] (Ret prog f85 M0 [] w0 (λ_=>[]) (λ_=>ti r) .ret):=by
  intro p1 he;subst he;simp only at h;obtain rfl:=sj h;exact Ql hpl
 refine Qm <|Qan h0 (λ(s0:Int)=>[(5,ti s0),(2,tptr (Qg.cs k_)),(1,tv (.string (sB name_)))]) (λ(s0:Int)=>[]) [0,1,2] ?_;clear h;intro s0 o K1 h ho k1;refine Qi λ_ k2=>Qa [4,5,6,7] ?_;refine Qq h (λ_ h=>?_) (λ_ h=>?_)
 ·refine Qt <|k2 <|Qi λ_ k3=>Qm ?_;have⟨_,_,h⟩:=bs h;refine Qa [7,9,10,11] ?_;refine Qq h (λ_ h=>?_) (λ_ h=>?_)
  ·refine Qa [1] ?_;refine Qap ?_;exact Qz J1 (ho _ (sj h).symm) [0]
  refine Qt <|k3 <|QL [2,4,5] ?_;exact Qz k1 ((sj h).symm) [0,1,2]
 refine QP <|Qz J0 (ho _ (sj h).symm) []
def Qii (x_:Qe) (kind_:Int) (field_:Int):Option (Bool):=(if (((decide (kind_<0))||(decide (kind_>=(x_.Xa.length:Int))))||(decide (field_<0)))=true then (some false) else (idx x_.Xa kind_).bind λt0=>(some (decide (field_<(t0.Xb.length:Int)))))
instance QAp:Spc3 prog 192 Qii (λx_ kind_ field_=>[Qc.ty x_,ti kind_,ti field_]) tb:=.mk λ{x_ kind_ field_ r} h=>by
 unfold Qii at h
 refine Fe func192 ntmps192 λM0 M w0 hpl=>?_
 refine Qa [0,3,4] ?_
 refine tIfs h [12,13,14,15] (λ_ h=>?_) (λ_ h=>?_)
 ·refine Qa [0] ?_
  exact Qo h (·▸Ql hpl)
 have⟨_,_,h⟩:=bs h
 refine Qa [9] ?_
 exact Qo h (·▸Ql hpl)
def QgS (x_:Qe) (kind_:Int) (field_:Int):Option (Int):=(Qii x_ kind_ field_).bind λt0=>(if (!t0)=true then (some (-1:Int)) else (idx x_.Xa kind_).bind λt1=>(idx t1.Xb field_).bind λt2=>(jn (λ(p0:Qb)=>(if (p0.Xi !=1)=true then (some (-1:Int)) else (Qck x_ p0.Of).bind λt3=>(if (decide (t3>=kind_))=true then (some (-1:Int)) else (some t3)))) λj16=>(if ((t2.Xi==7)||(t2.Xi==8))=true then (idx x_.Xa kind_).bind λt4=>(Qbu t4 t2.Up).bind λt5=>(if ((decide (t5<0))||(decide (t5>=field_)))=true then (some (-1:Int)) else (idx x_.Xa kind_).bind λt6=>(idx t6.Xb t5).bind λt7=>(j16 t7)) else (j16 t2))))
instance QAt:Spc3 prog 154 QgS (λx_ kind_ field_=>[Qc.ty x_,ti kind_,ti field_]) ti:=.mk λ{x_ kind_ field_ r} h=>by
 unfold QgS at h
 refine Fe func154 ntmps154 λM0 M w0 hpl=>?_
 refine Qa [0,3,4] ?_
 have⟨_,_,h⟩:=bs h
 refine tIfs h [4,5,6,7] (λ_ h=>?_) (λ_ h=>?_)
 ·refine Qa [0] ?_
  exact Qo h (·▸Ql hpl)
 have⟨_,_,t0,_,h⟩:=bs2 h
 refine QB [v1 9 (λv0=>box (Qd.cs zz0) v0),v1 9 (λv0=>box (Qd.cs t0) v0)] [10,11] [9,11,12,13] λm0=>?_
 refine Qi λK0 k0=>?_
 refine Qa [7,8,9,10,11] ?_
 obtain⟨j16,hj16,h⟩:=Qk1 h
 have J0:∀(p0:Qb),j16 p0=some r->To M w0 67 [(7,tv (m0 9)),(3,tptr (Qc.cs x_)),(1,ti kind_)] [box (Qd.cs p0) (m0 9)] K0:=by
  intro p0 h;rw[hj16] at h;clear hj16;refine k0 <|tIfs h [2,3,4,5] (λ_ h=>?_) (λ_ h=>?_)
  ·refine Qa [0] ?_;refine QN (λ_ _ H=>H.Xk [] rfl) ?_;exact Qo h (·▸Ql hpl)
  have⟨_,_,h⟩:=bs h;refine Qa [4,8] ?_;refine QN (λ_ _ H=>H.Xk [] rfl) ?_;refine tIfs h [2,3] (λ_ h=>?_) (λ_ h=>?_)
  ·refine Qa [0] ?_;exact Qo h (·▸Ql hpl)
  refine Qa [1] ?_;exact Qo h (·▸Ql hpl)
 clear hj16;refine Qq h (λ_ h=>?_) (λ_ h=>?_)
 ·have⟨_,_,_,_,h⟩:=bs2 h;refine Qa [8,10,11,12,13] ?_;refine tIfs h [6,7,8,9,10] (λ_ h=>?_) (λ_ h=>?_)
  ·refine Qa [0] ?_;refine QN (λ_ _ H=>H.Xk [] rfl) ?_;exact Qo h (·▸Ql hpl)
  have⟨_,_,t1,_,h⟩:=bs2 h;refine Qah [v0 (box (Qd.cs t1) (m0 9))] [10] [11,12,13] λm1=>?_;exact Qz J0 h [0,1,2]
 refine Qt <|Qz J0 h [1,2,3]
def Qhv (x_:Qe) (kind_:Int) (field_:Int):Option (Int×(List Int)):=(idx x_.Xa kind_).bind λt0=>(idx t0.Xb field_).bind λt1=>(Qck x_ t1.Of).bind λt2=>(if ((t1.Xi !=6)||(decide (t2<=kind_)))=true then (some ((-1:Int),([]:List Int))) else (idx x_.Xa t2).bind λt3=>(Qu (λ(s0:Int×List Int)=>((if (decide (s0.1<(t3.Xb.length:Int)))=true then (idx t3.Xb s0.1).bind λt4=>(opt ((t4.Xi==7)==true) (idx t3.Xb s0.1) default).bind λt5=>(opt (((t4.Xi==7)&&(t5.Of==t1.Xj))==true) (QgS x_ t2 s0.1) default).bind λt6=>((if (((t4.Xi==7)&&(t5.Of==t1.Xj))&&(t6==kind_))=true then (rm (s0.2.length+[s0.1].length)).bind λ_=>(some (s0.2++[s0.1])) else (some s0.2))).bind λp0=>(some (.inl ((i64.wrap (s0.1+1)),p0))) else (some (.inr s0.2))):Option ((Int×List Int)⊕((List Int))))) ((0:Int),([]:List Int))).bind λp1=>(some (t2,p1)))
instance QAj:Spc3 prog 190 Qhv (λx_ kind_ field_=>[Qc.ty x_,ti kind_,ti field_]) (λr=>ttup [ti r.1,tsl rI r.2]):=.mk λ{x_ kind_ field_ r} h=>by
 unfold Qhv at h
 refine Fe func190 ntmps190 λM0 M w0 hpl=>?_
 refine Qa [0,4,5] ?_
 have⟨_,_,t0,_,h⟩:=bs2 h
 refine QB [v1 9 (λv0=>box (Qd.cs zz0) v0),v1 9 (λv0=>box (Qd.cs t0) v0)] [10,11] [9,10,11] λm0=>?_
 refine QN (λ_ _ H=>((H.Xl 0 rfl).add 0 rfl (λ_ _ _ h=>h.2)).pick [0,3,4]) ?_
 have⟨t1,_,h⟩:=bs h
 refine Qa [4,5,6,7] ?_
 refine tIfs h [7,8,9,10,11] (λ_ h=>?_) (λ_ h=>?_)
 ·refine Qa [0,1] ?_
  exact Qo h (·▸Ql hpl)
 refine Qa [0,2,3,4,5] ?_
 refine QN (λ_ _ H=>H.nil (rI) 3) ?_
 have⟨t2,_,h⟩:=bs h
 refine Qa [6,7,8,9,10,11] ?_
 refine Qi λK0 k0=>?_
 refine Qa [0,1,2,3,4,5,6] ?_
 have⟨e0,h0,h⟩:=bs h
 have J0:∀(p0:List Int) (y0:Value),p0=e0->To M w0 76 [(10,tv y0),(9,ti t1)] [own rI 3 p0 y0] K0:=by
  intro p0 y0 he;subst he;refine k0 <|Qa [1,2,3,4] ?_;refine Qap ?_;refine Qae (by intro _ _ H;exact (H.Xn 2 rfl).pick [0,2]) ?_;obtain rfl:=sj h;exact Ql hpl
 refine Qm <|QaJ h0 (λ(s0:Int×List Int) (y1:Value)=>[(12,ti s0.1),(11,tsl Qd t2.Xb),(10,tv y1),(9,ti t1),(8,tptr (Qd.cs t0)),(3,tptr (Qc.cs x_)),(1,ti kind_)]) (λ(s0:Int×List Int) (y1:Value)=>[own rI 3 s0.2 y1]) (.slice none 0 0) [0,1,2,3,4,5,6] ?_;clear h;intro s0 y1 o K1 h ho k1;refine Qi λ_ k2=>Qa [3,4,5,6,7,8,9,10] ?_;refine Qq h (λ_ h=>?_) (λ_ h=>?_)
 ·refine Qt <|k2 <|Qi λK2 k3=>Qm ?_;have⟨_,_,_,_,_,_,h⟩:=bs3 h;refine Qa [23,25,26,27,28,29,30,31] ?_;have⟨p1,h1,h⟩:=bs h;have J1:∀(y2:Value),To M w0 76 [(10,tv y2),(12,ti s0.1),(11,tsl Qd t2.Xb),(9,ti t1),(8,tptr (Qd.cs t0)),(3,tptr (Qc.cs x_)),(1,ti kind_)] [own rI 3 p1 y2] K2:=by
   intro y2;refine k3 <|QL [2,3,4,5,6,7,8] ?_;exact QX k1 y2 ((sj h).symm) [0,2,1,3,4,5,6]
  replace h:=h1;clear h1;refine Qq h (λ_ h=>?_) (λ_ h=>?_)
  ·have⟨_,_,h⟩:=bs h;refine Qah [v1 3 (λv0=>own rI 3 (s0.2++[s0.1]) v0)] [4] [3,4,6,7,8,9,10,11] λm1=>?_;obtain rfl:=sj h;exact QI (J1 (m1 3)) [1,2,3,4,5,6,7]
  refine Qt ?_;obtain rfl:=sj h;exact QI (J1 y1) [3,1,2,4,5,6,7]
 refine QP <|QX J0 y1 (ho _ (sj h).symm) [3,4]
def QgT (x_:Qe) (kind_:Int) (field_:Int):Option (Int×Qb):=(QgS x_ kind_ field_).bind λt0=>(if (decide (t0<0))=true then (some ((-1:Int),zz0)) else (idx x_.Xa t0).bind λt1=>(idx x_.Xa kind_).bind λt2=>(idx t2.Xb field_).bind λt3=>(Qbu t1 t3.Of).bind λt4=>(if (decide (t4<0))=true then (some ((-1:Int),zz0)) else (idx x_.Xa t0).bind λt5=>(idx t5.Xb t4).bind λt6=>(idx x_.Xa t0).bind λt7=>(idx t7.Xb t4).bind λt8=>(some (t6.Xi,t8))))
instance QzH:Spc3 prog 220 QgT (λx_ kind_ field_=>[Qc.ty x_,ti kind_,ti field_]) (λr=>ttup [ti r.1,Qd.ty r.2]):=.mk λ{x_ kind_ field_ r} h=>by
 unfold QgT at h
 refine Fe func220 ntmps220 λM0 M w0 hpl=>?_
 refine QB [v1 2 (λv0=>box (Qd.cs zz0) v0)] [3] [0,2,4,5] λm0=>?_
 have⟨_,_,h⟩:=bs h
 refine Qa [4,5,6,7,8] ?_
 refine tIfs h [1,2,3,4,5,6] (λ_ h=>?_) (λ_ h=>?_)
 ·refine QB [v0 (box (Qd.cs zz0) (m0 2))] [3] [1,5] λm1=>?_
  exact Qo h (·▸Ql hpl)
 have⟨_,_,_,_,_,_,_,_,h⟩:=bs4 h
 refine Qa [16,18,19,20] ?_
 refine tIfs h [1,2,3,4,5] (λ_ h=>?_) (λ_ h=>?_)
 ·refine QB [v0 (box (Qd.cs zz0) (m0 2))] [3] [1,6] λm2=>?_
  exact Qo h (·▸Ql hpl)
 have⟨_,h0,t0,h1,h⟩:=bs2 h
 replace h:=bk h0 h
 replace h:=bk h1 h
 refine QB [v0 (box (Qd.cs t0) (m0 2))] [21] [19,24] λm3=>?_
 exact Qo h (·▸Ql hpl)
def Qij (x_:Qe) (kind_:Int) (field_:Int) (up_:Int):Option (Int):=(if (decide (up_<0))=true then (some (12:Int)) else (QgT x_ kind_ field_).bind λt0=>(idx x_.Xa kind_).bind λt1=>(idx t1.Xb field_).bind λt2=>(if (t2.Xi==7)=true then (opt ((t0.1 !=6)==false) (Qck x_ (t0.2).Of) default).bind λt3=>(if ((t0.1 !=6)||(t3 !=kind_))=true then (some (13:Int)) else (some (0:Int))) else (if (((((decide (t0.1<0))||(t0.1==0))||(t0.1==1))||(t0.1==6))||(t0.1==7))=true then (some (13:Int)) else (some (0:Int)))))
instance QzI:Spc4 prog 191 Qij (λx_ kind_ field_ up_=>[Qc.ty x_,ti kind_,ti field_,ti up_]) ti:=.mk λ{x_ kind_ field_ up_ r} h=>by
 unfold Qij at h
 refine Fe func191 ntmps191 λM0 M w0 hpl=>?_
 refine Qa [0,3,4,5] ?_
 refine tIfs h [1,2,3,4] (λ_ h=>?_) (λ_ h=>?_)
 ·refine Qa [0] ?_
  exact Qo h (·▸Ql hpl)
 have⟨t0,_,h⟩:=bs h
 refine QB [v1 7 (λv0=>box (Qd.cs zz0) v0),v1 7 (λv0=>box (Qd.cs t0.2) v0)] [8,10] [7,8,10,11,12] λm0=>?_
 refine QN (λ_ _ H=>((H.Xl 0 rfl).add 0 rfl (λ_ _ _ h=>h.2)).pick [0,3,4,5,6]) ?_
 have⟨_,_,_,_,h⟩:=bs2 h
 refine tIfs h [10,11,12,13,14] (λ_ h=>?_) (λ_ h=>?_)
 ·have⟨_,_,h⟩:=bs h
  refine tIfs h [9] (λ_ h=>?_) (λ_ h=>?_)
  ·refine Qa [0] ?_
   exact Qo h (·▸Ql hpl)
  refine Qa [0] ?_
  exact Qo h (·▸Ql hpl)
 refine tIfs h [17] (λ_ h=>?_) (λ_ h=>?_)
 ·refine Qa [0] ?_
  exact Qo h (·▸Ql hpl)
 refine Qa [0] ?_
 exact Qo h (·▸Ql hpl)
