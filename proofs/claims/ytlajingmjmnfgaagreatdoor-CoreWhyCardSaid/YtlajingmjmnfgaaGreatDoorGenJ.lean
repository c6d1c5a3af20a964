/- The walk. No condition. -/
import Derived.Test.YtlajingmjmnfgaaGreatDoorGenI
set_option linter.all false
open Go.Proofs.Tryz Go.IntKind
namespace Go.Proofs.YtlajingmjmnfgaaGreatDoor
noncomputable section
open Go.Sim
set_option maxRecDepth 100000
set_option maxHeartbeats 4000000
def Qgd (x_:Qb):Option (Int):=(QaO x_.Version 0 1048576).bind λt0=>(if ((((!t0)||(decide ((x_.Xa.length:Int)>6)))||(decide ((x_.Xd.length:Int)>6)))||(decide ((x_.Xc.length:Int)>16)))=true then (some (1:Int)) else (Qm (λ(s0:Int)=>((if (decide (s0<(x_.Xa.length:Int)))=true then (idx x_.Xa s0).bind λt1=>(QfC t1).bind λt2=>(if (!t2)=true then (some (.inr (.inr (1:Int)))) else (some (.inl (i64.wrap (s0+1))))) else (some (.inr (.inl ())))):Option ((Int)⊕((Unit)⊕(Int))))) (0:Int)).bind λe0=>(match e0 with | .inl _=>(Qm (λ(s1:Int)=>((if (decide (s1<(x_.Xd.length:Int)))=true then (idx x_.Xd s1).bind λt3=>(QfD t3).bind λt4=>(if (!t4)=true then (some (.inr (.inr (1:Int)))) else (some (.inl (i64.wrap (s1+1))))) else (some (.inr (.inl ())))):Option ((Int)⊕((Unit)⊕(Int))))) (0:Int)).bind λe1=>(match e1 with | .inl _=>(Qm (λ(s2:Int)=>((if (decide (s2<(x_.Xc.length:Int)))=true then (idx x_.Xc s2).bind λt5=>(QfE t5).bind λt6=>(if (!t6)=true then (some (.inr (.inr (1:Int)))) else (some (.inl (i64.wrap (s2+1))))) else (some (.inr (.inl ())))):Option ((Int)⊕((Unit)⊕(Int))))) (0:Int)).bind λe2=>(match e2 with | .inl _=>(QfF x_).bind λt7=>(if (decide ((t7.length:Int)>8192))=true then (some (4:Int)) else (some (0:Int))) | .inr p0=>(some p0)) | .inr p1=>(some p1)) | .inr p2=>(some p2)))
instance QBq:Spc1 prog 146 Qgd (λx_=>[Qc.ty x_]) ti:=.mk λ{x_ r} h=>by
 unfold Qgd at h
 refine Fe func146 ntmps146 λM0 M w0 hpl=>?_
 refine Qa [0] ?_
 have⟨_,_,h⟩:=bs h
 refine tIfs h [21,22] (λ_ h=>?_) (λ_ h=>?_)
 ·refine Qa [0] ?_
  exact Qo h (·▸Ql hpl)
 refine Qf λK0 k0=>?_
 refine Qa [0,2] ?_
 have⟨e0,h0,h⟩:=bs h
 have J0:∀(p0:Unit),(.inl p0)=e0->To M w0 74 [(1,tptr (Qc.cs x_))] [] K0:=by
  intro p0 he;subst he;simp only at h;refine k0 <|Qf λK1 k1=>Qa [0,1] ?_;have⟨e1,h1,h⟩:=bs h;have J1:∀(p1:Unit),(.inl p1)=e1->To M w0 74 [(1,tptr (Qc.cs x_))] [] K1:=by
   intro p1 he;subst he;simp only at h;refine k1 <|Qf λK2 k2=>Qa [0,1] ?_;have⟨e2,h2,h⟩:=bs h;have J2:∀(p2:Unit),(.inl p2)=e2->To M w0 74 [(1,tptr (Qc.cs x_))] [] K2:=by
    intro p2 he;subst he;simp only at h;refine k2 ?_;have⟨_,_,h⟩:=bs h;refine tIfs h [3] (λ_ h=>?_) (λ_ h=>?_)
    ·refine Qa [0] ?_;exact Qo h (·▸Ql hpl)
    refine Qa [0] ?_;exact Qo h (·▸Ql hpl)
   have J3:∀(p3:Int),(.inr p3)=e2->To M w0 74 [(2,ti p3)] [] (Ret prog f146 M0 [] w0 (λ_=>[]) (λ_=>ti r) .ret):=by
    intro p3 he;subst he;simp only at h;obtain rfl:=sj h;exact Ql hpl
   refine Qj <|Qai h2 (λ(s0:Int)=>[(5,ti s0),(1,tptr (Qc.cs x_))]) (λ(s0:Int)=>[]) [0,1] ?_;clear h;intro s0 o K3 h ho k3;refine Qf λ_ k4=>Qa [4,5,6] ?_;refine Qn h (λ_ h=>?_) (λ_ h=>?_)
   ·refine Qq <|k4 <|Qf λ_ k5=>Qj ?_;have⟨_,_,_,_,h⟩:=bs2 h;refine Qa [6,8,9] ?_;refine Qn h (λ_ h=>?_) (λ_ h=>?_)
    ·refine Qa [0] ?_;refine Qam ?_;exact Qu J3 (ho _ (sj h).symm) [0]
    refine Qq <|k5 <|QL [2,4] ?_;exact Qu k3 ((sj h).symm) [0,1]
   refine QO <|Qu J2 (ho _ (sj h).symm) [2]
  have J4:∀(p4:Int),(.inr p4)=e1->To M w0 74 [(2,ti p4)] [] (Ret prog f146 M0 [] w0 (λ_=>[]) (λ_=>ti r) .ret):=by
   intro p4 he;subst he;simp only at h;obtain rfl:=sj h;exact Ql hpl
  refine Qj <|Qai h1 (λ(s1:Int)=>[(4,ti s1),(1,tptr (Qc.cs x_))]) (λ(s1:Int)=>[]) [0,1] ?_;clear h;intro s1 o K4 h ho k6;refine Qf λ_ k7=>Qa [4,5,6] ?_;refine Qn h (λ_ h=>?_) (λ_ h=>?_)
  ·refine Qq <|k7 <|Qf λ_ k8=>Qj ?_;have⟨_,_,_,_,h⟩:=bs2 h;refine Qa [6,8,9] ?_;refine Qn h (λ_ h=>?_) (λ_ h=>?_)
   ·refine Qa [0] ?_;refine Qam ?_;exact Qu J4 (ho _ (sj h).symm) [0]
   refine Qq <|k8 <|QL [2,4] ?_;exact Qu k6 ((sj h).symm) [0,1]
  refine QO <|Qu J1 (ho _ (sj h).symm) [2]
 have J5:∀(p5:Int),(.inr p5)=e0->To M w0 74 [(2,ti p5)] [] (Ret prog f146 M0 [] w0 (λ_=>[]) (λ_=>ti r) .ret):=by
  intro p5 he;subst he;simp only at h;obtain rfl:=sj h;exact Ql hpl
 refine Qj <|Qai h0 (λ(s2:Int)=>[(3,ti s2),(1,tptr (Qc.cs x_))]) (λ(s2:Int)=>[]) [0,1] ?_;clear h;intro s2 o K5 h ho k9;refine Qf λ_ k10=>Qa [4,5,6] ?_;refine Qn h (λ_ h=>?_) (λ_ h=>?_)
 ·refine Qq <|k10 <|Qf λ_ k11=>Qj ?_;have⟨_,_,_,_,h⟩:=bs2 h;refine Qa [6,8,9] ?_;refine Qn h (λ_ h=>?_) (λ_ h=>?_)
  ·refine Qa [0] ?_;refine Qam ?_;exact Qu J5 (ho _ (sj h).symm) [0]
  refine Qq <|k11 <|QL [2,4] ?_;exact Qu k9 ((sj h).symm) [0,1]
 refine QO <|Qu J0 (ho _ (sj h).symm) [2]
def Qb2 (l_:(List QH)) (kind_:Int) (field_:Int) (rule_:Int) (e_:Int):Option ((List QH)):=(if (e_==0)=true then (some l_) else (rm (l_.length+[(QH.mk kind_ field_ rule_ e_)].length)).bind λ_=>(some (l_++[(QH.mk kind_ field_ rule_ e_)])))
instance QCs:SpcS prog 147 (∀{vh0:Value} {l_:(List QH)} {kind_:Int} {field_:Int} {rule_:Int} {e_:Int} {r:(List QH)},Qb2 l_ kind_ field_ rule_ e_=some r->FnOk prog 147 [tv vh0,ti kind_,ti field_,ti rule_,ti e_] [own Q1 182 l_ vh0] (λv=>[own Q1 182 r v]) (λv=>tv v)):=.mk λ{vh0 l_ kind_ field_ rule_ e_ r} h=>by
 unfold Qb2 at h
 refine Fe func147 ntmps147 λM0 M w0 hpl=>?_
 refine Qa [1,2,3,4,5] ?_
 refine tIfs h [1,2,3,4,5,6] (λ_ h=>?_) (λ_ h=>?_)
 ·refine Qa [0,1,3] ?_
  exact Qo h (·▸Qcp vh0 [0] hpl)
 have⟨_,_,h⟩:=bs h
 refine QJ [v1 7 (λv0=>own Q1 182 (l_++[(QH.mk kind_ field_ rule_ e_)]) v0)] [8] [7,8] λm0=>?_
 exact Qo h (·▸Qcp (m0 7) [0] hpl)
def QbY (x_:Qb) (name_:Str):Option (Int):=(Qm (λ(s0:Int)=>((if (decide (s0<(x_.Xa.length:Int)))=true then (idx x_.Xa s0).bind λt0=>(if (t0.Xj==name_)=true then (some (.inr (.inr s0))) else (some (.inl (i64.wrap (s0+1))))) else (some (.inr (.inl ())))):Option ((Int)⊕((Unit)⊕(Int))))) (0:Int)).bind λe0=>(match e0 with | .inl _=>(some (-1:Int)) | .inr p0=>(some p0))
instance QCm:Spc2 prog 86 QbY (λx_ name_=>[Qc.ty x_,tv (.string (sB name_))]) ti:=.mk λ{x_ name_ r} h=>by
 unfold QbY at h
 refine Fe func86 ntmps86 λM0 M w0 hpl=>?_
 refine Qa [0,3] ?_
 refine Qf λK0 k0=>?_
 refine Qa [0,1,2] ?_
 have⟨e0,h0,h⟩:=bs h
 have J0:∀(p0:Unit),(.inl p0)=e0->To M w0 22 [] [] K0:=by
  intro p0 he;subst he;simp only at h;refine k0 <|Qa [0] ?_;exact Qo h (·▸Ql hpl)
 have J1:∀(p1:Int),(.inr p1)=e0->To M w0 22 [(4,ti p1)] [] (Ret prog f86 M0 [] w0 (λ_=>[]) (λ_=>ti r) .ret):=by
  intro p1 he;subst he;simp only at h;obtain rfl:=sj h;exact Ql hpl
 refine Qj <|Qai h0 (λ(s0:Int)=>[(5,ti s0),(2,tptr (Qc.cs x_)),(1,tv (.string (sB name_)))]) (λ(s0:Int)=>[]) [0,1,2] ?_;clear h;intro s0 o K1 h ho k1;refine Qf λ_ k2=>Qa [4,5,6,7] ?_;refine Qn h (λ_ h=>?_) (λ_ h=>?_)
 ·refine Qq <|k2 <|Qf λ_ k3=>Qj ?_;have⟨_,_,h⟩:=bs h;refine Qa [7,9,10,11] ?_;refine Qn h (λ_ h=>?_) (λ_ h=>?_)
  ·refine Qa [1] ?_;refine Qam ?_;exact Qu J1 (ho _ (sj h).symm) [0]
  refine Qq <|k3 <|QL [2,4,5] ?_;exact Qu k1 ((sj h).symm) [0,1,2]
 refine QO <|Qu J0 (ho _ (sj h).symm) []
def Qge (l_:(List Qd)):Option (Bool):=(if ((l_.length:Int)==0)=true then (some false) else (idx l_ 0).bind λt0=>(some (t0.Xi==0)))
instance QBr:Spc1 prog 148 Qge (λl_=>[tsl Qe l_]) tb:=.mk λ{l_ r} h=>by
 unfold Qge at h
 refine Fe func148 ntmps148 λM0 M w0 hpl=>?_
 refine Qa [1] ?_
 refine tIfs h [2,3] (λ_ h=>?_) (λ_ h=>?_)
 ·refine Qa [0] ?_
  exact Qo h (·▸Ql hpl)
 have⟨_,_,h⟩:=bs h
 refine Qa [5] ?_
 exact Qo h (·▸Ql hpl)
def Qbg (k_:Qi) (name_:Str):Option (Int):=(Qm (λ(s0:Int)=>((if (decide (s0<(k_.Xb.length:Int)))=true then (idx k_.Xb s0).bind λt0=>(if (t0.Xj==name_)=true then (some (.inr (.inr s0))) else (some (.inl (i64.wrap (s0+1))))) else (some (.inr (.inl ())))):Option ((Int)⊕((Unit)⊕(Int))))) (0:Int)).bind λe0=>(match e0 with | .inl _=>(some (-1:Int)) | .inr p0=>(some p0))
instance QBs:Spc2 prog 85 Qbg (λk_ name_=>[Qg.ty k_,tv (.string (sB name_))]) ti:=.mk λ{k_ name_ r} h=>by
 unfold Qbg at h
 refine Fe func85 ntmps85 λM0 M w0 hpl=>?_
 refine Qa [0,3] ?_
 refine Qf λK0 k0=>?_
 refine Qa [0,1,2] ?_
 have⟨e0,h0,h⟩:=bs h
 have J0:∀(p0:Unit),(.inl p0)=e0->To M w0 22 [] [] K0:=by
  intro p0 he;subst he;simp only at h;refine k0 <|Qa [0] ?_;exact Qo h (·▸Ql hpl)
 have J1:∀(p1:Int),(.inr p1)=e0->To M w0 22 [(4,ti p1)] [] (Ret prog f85 M0 [] w0 (λ_=>[]) (λ_=>ti r) .ret):=by
  intro p1 he;subst he;simp only at h;obtain rfl:=sj h;exact Ql hpl
 refine Qj <|Qai h0 (λ(s0:Int)=>[(5,ti s0),(2,tptr (Qg.cs k_)),(1,tv (.string (sB name_)))]) (λ(s0:Int)=>[]) [0,1,2] ?_;clear h;intro s0 o K1 h ho k1;refine Qf λ_ k2=>Qa [4,5,6,7] ?_;refine Qn h (λ_ h=>?_) (λ_ h=>?_)
 ·refine Qq <|k2 <|Qf λ_ k3=>Qj ?_;have⟨_,_,h⟩:=bs h;refine Qa [7,9,10,11] ?_;refine Qn h (λ_ h=>?_) (λ_ h=>?_)
  ·refine Qa [1] ?_;refine Qam ?_;exact Qu J1 (ho _ (sj h).symm) [0]
  refine Qq <|k3 <|QL [2,4,5] ?_;exact Qu k1 ((sj h).symm) [0,1,2]
 refine QO <|Qu J0 (ho _ (sj h).symm) []
def Qhq (x_:Qb) (kind_:Int) (field_:Int):Option (Bool):=(if (((decide (kind_<0))||(decide (kind_>=(x_.Xa.length:Int))))||(decide (field_<0)))=true then (some false) else (idx x_.Xa kind_).bind λt0=>(some (decide (field_<(t0.Xb.length:Int)))))
instance QCt:Spc3 prog 192 Qhq (λx_ kind_ field_=>[Qc.ty x_,ti kind_,ti field_]) tb:=.mk λ{x_ kind_ field_ r} h=>by
 unfold Qhq at h
 refine Fe func192 ntmps192 λM0 M w0 hpl=>?_
 refine Qa [0,3,4] ?_
 refine tIfs h [12,13,14,15] (λ_ h=>?_) (λ_ h=>?_)
 ·refine Qa [0] ?_
  exact Qo h (·▸Ql hpl)
 have⟨_,_,h⟩:=bs h
 refine Qa [9] ?_
 exact Qo h (·▸Ql hpl)
def Qfb (x_:Qb) (kind_:Int) (field_:Int):Option (Int):=(Qhq x_ kind_ field_).bind λt0=>(if (!t0)=true then (some (-1:Int)) else (idx x_.Xa kind_).bind λt1=>(idx t1.Xb field_).bind λt2=>(jn (λ(p0:Qd)=>(if (p0.Xi !=1)=true then (some (-1:Int)) else (QbY x_ p0.Of).bind λt3=>(if (decide (t3>=kind_))=true then (some (-1:Int)) else (some t3)))) λj16=>(if ((t2.Xi==7)||(t2.Xi==8))=true then (idx x_.Xa kind_).bind λt4=>(Qbg t4 t2.Up).bind λt5=>(if ((decide (t5<0))||(decide (t5>=field_)))=true then (some (-1:Int)) else (idx x_.Xa kind_).bind λt6=>(idx t6.Xb t5).bind λt7=>(j16 t7)) else (j16 t2))))
instance QCy:Spc3 prog 154 Qfb (λx_ kind_ field_=>[Qc.ty x_,ti kind_,ti field_]) ti:=.mk λ{x_ kind_ field_ r} h=>by
 unfold Qfb at h
 refine Fe func154 ntmps154 λM0 M w0 hpl=>?_
 refine Qa [0,3,4] ?_
 have⟨_,_,h⟩:=bs h
 refine tIfs h [4,5,6,7] (λ_ h=>?_) (λ_ h=>?_)
 ·refine Qa [0] ?_
  exact Qo h (·▸Ql hpl)
 have⟨_,_,t0,_,h⟩:=bs2 h
 refine QJ [v1 9 (λv0=>box (Qe.cs zz0) v0),v1 9 (λv0=>box (Qe.cs t0) v0)] [10,11] [9,11,12,13] λm0=>?_
 refine Qf λK0 k0=>?_
 refine Qa [7,8,9,10,11] ?_
 obtain⟨j16,hj16,h⟩:=QiO h
 have J0:∀(p0:Qd),j16 p0=some r->To M w0 67 [(7,tv (m0 9)),(3,tptr (Qc.cs x_)),(1,ti kind_)] [box (Qe.cs p0) (m0 9)] K0:=by
  intro p0 h;rw[hj16] at h;clear hj16;refine k0 <|tIfs h [2,3,4,5] (λ_ h=>?_) (λ_ h=>?_)
  ·refine Qa [0] ?_;refine QY (λ_ _ H=>H.Xk [] rfl) ?_;exact Qo h (·▸Ql hpl)
  have⟨_,_,h⟩:=bs h;refine Qa [4,8] ?_;refine QY (λ_ _ H=>H.Xk [] rfl) ?_;refine tIfs h [2,3] (λ_ h=>?_) (λ_ h=>?_)
  ·refine Qa [0] ?_;exact Qo h (·▸Ql hpl)
  refine Qa [1] ?_;exact Qo h (·▸Ql hpl)
 clear hj16;refine Qn h (λ_ h=>?_) (λ_ h=>?_)
 ·have⟨_,_,_,_,h⟩:=bs2 h;refine Qa [8,10,11,12,13] ?_;refine tIfs h [6,7,8,9,10] (λ_ h=>?_) (λ_ h=>?_)
  ·refine Qa [0] ?_;refine QY (λ_ _ H=>H.Xk [] rfl) ?_;exact Qo h (·▸Ql hpl)
  have⟨_,_,t1,_,h⟩:=bs2 h;refine Qal [v0 (box (Qe.cs t1) (m0 9))] [10] [11,12,13] λm1=>?_;exact Qu J0 h [0,1,2]
 refine Qq <|Qu J0 h [1,2,3]
def QgT (x_:Qb) (kind_:Int) (field_:Int):Option (Int×(List Int)):=(idx x_.Xa kind_).bind λt0=>(idx t0.Xb field_).bind λt1=>(QbY x_ t1.Of).bind λt2=>(if ((t1.Xi !=6)||(decide (t2<=kind_)))=true then (some ((-1:Int),([]:List Int))) else (idx x_.Xa t2).bind λt3=>(Qm (λ(s0:Int×List Int)=>((if (decide (s0.1<(t3.Xb.length:Int)))=true then (idx t3.Xb s0.1).bind λt4=>(opt ((t4.Xi==7)==true) (idx t3.Xb s0.1) default).bind λt5=>(opt (((t4.Xi==7)&&(t5.Of==t1.Xj))==true) (Qfb x_ t2 s0.1) default).bind λt6=>((if (((t4.Xi==7)&&(t5.Of==t1.Xj))&&(t6==kind_))=true then (rm (s0.2.length+[s0.1].length)).bind λ_=>(some (s0.2++[s0.1])) else (some s0.2))).bind λp0=>(some (.inl ((i64.wrap (s0.1+1)),p0))) else (some (.inr s0.2))):Option ((Int×List Int)⊕((List Int))))) ((0:Int),([]:List Int))).bind λp1=>(some (t2,p1)))
instance QCn:Spc3 prog 190 QgT (λx_ kind_ field_=>[Qc.ty x_,ti kind_,ti field_]) (λr=>ttup [ti r.1,tsl rI r.2]):=.mk λ{x_ kind_ field_ r} h=>by
 unfold QgT at h
 refine Fe func190 ntmps190 λM0 M w0 hpl=>?_
 refine Qa [0,4,5] ?_
 have⟨_,_,t0,_,h⟩:=bs2 h
 refine QJ [v1 9 (λv0=>box (Qe.cs zz0) v0),v1 9 (λv0=>box (Qe.cs t0) v0)] [10,11] [9,10,11] λm0=>?_
 refine QY (λ_ _ H=>((H.Xl 0 rfl).add 0 rfl (λ_ _ _ h=>h.2)).pick [0,3,4]) ?_
 have⟨t1,_,h⟩:=bs h
 refine Qa [4,5,6,7] ?_
 refine tIfs h [7,8,9,10,11] (λ_ h=>?_) (λ_ h=>?_)
 ·refine Qa [0,1] ?_
  exact Qo h (·▸Ql hpl)
 refine Qa [0,2,3,4,5] ?_
 refine QY (λ_ _ H=>H.nil (rI) 3) ?_
 have⟨t2,_,h⟩:=bs h
 refine Qa [6,7,8,9,10,11] ?_
 refine Qf λK0 k0=>?_
 refine Qa [0,1,2,3,4,5,6] ?_
 have⟨e0,h0,h⟩:=bs h
 have J0:∀(p0:List Int) (y0:Value),p0=e0->To M w0 76 [(10,tv y0),(9,ti t1)] [own rI 3 p0 y0] K0:=by
  intro p0 y0 he;subst he;refine k0 <|Qa [1,2,3,4] ?_;refine Qam ?_;refine Qad (by intro _ _ H;exact (H.Xn 2 rfl).pick [0,2]) ?_;obtain rfl:=sj h;exact Ql hpl
 refine Qj <|QaC h0 (λ(s0:Int×List Int) (y1:Value)=>[(12,ti s0.1),(11,tsl Qe t2.Xb),(10,tv y1),(9,ti t1),(8,tptr (Qe.cs t0)),(3,tptr (Qc.cs x_)),(1,ti kind_)]) (λ(s0:Int×List Int) (y1:Value)=>[own rI 3 s0.2 y1]) (.slice none 0 0) [0,1,2,3,4,5,6] ?_;clear h;intro s0 y1 o K1 h ho k1;refine Qf λ_ k2=>Qa [3,4,5,6,7,8,9,10] ?_;refine Qn h (λ_ h=>?_) (λ_ h=>?_)
 ·refine Qq <|k2 <|Qf λK2 k3=>Qj ?_;have⟨_,_,_,_,_,_,h⟩:=bs3 h;refine Qa [23,25,26,27,28,29,30,31] ?_;have⟨p1,h1,h⟩:=bs h;have J1:∀(y2:Value),To M w0 76 [(10,tv y2),(12,ti s0.1),(11,tsl Qe t2.Xb),(9,ti t1),(8,tptr (Qe.cs t0)),(3,tptr (Qc.cs x_)),(1,ti kind_)] [own rI 3 p1 y2] K2:=by
   intro y2;refine k3 <|QL [2,3,4,5,6,7,8] ?_;exact QV k1 y2 ((sj h).symm) [0,2,1,3,4,5,6]
  replace h:=h1;clear h1;refine Qn h (λ_ h=>?_) (λ_ h=>?_)
  ·have⟨_,_,h⟩:=bs h;refine Qal [v1 3 (λv0=>own rI 3 (s0.2++[s0.1]) v0)] [4] [3,4,6,7,8,9,10,11] λm1=>?_;obtain rfl:=sj h;exact QK (J1 (m1 3)) [1,2,3,4,5,6,7]
  refine Qq ?_;obtain rfl:=sj h;exact QK (J1 y1) [3,1,2,4,5,6,7]
 refine QO <|QV J0 y1 (ho _ (sj h).symm) [3,4]
def Qgf (x_:Qb) (kind_:Int) (field_:Int):Option (Int×Qd):=(Qfb x_ kind_ field_).bind λt0=>(if (decide (t0<0))=true then (some ((-1:Int),zz0)) else (idx x_.Xa t0).bind λt1=>(idx x_.Xa kind_).bind λt2=>(idx t2.Xb field_).bind λt3=>(Qbg t1 t3.Of).bind λt4=>(if (decide (t4<0))=true then (some ((-1:Int),zz0)) else (idx x_.Xa t0).bind λt5=>(idx t5.Xb t4).bind λt6=>(idx x_.Xa t0).bind λt7=>(idx t7.Xb t4).bind λt8=>(some (t6.Xi,t8))))
instance QBt:Spc3 prog 220 Qgf (λx_ kind_ field_=>[Qc.ty x_,ti kind_,ti field_]) (λr=>ttup [ti r.1,Qe.ty r.2]):=.mk λ{x_ kind_ field_ r} h=>by
 unfold Qgf at h
 refine Fe func220 ntmps220 λM0 M w0 hpl=>?_
 refine QJ [v1 2 (λv0=>box (Qe.cs zz0) v0)] [3] [0,2,4,5] λm0=>?_
 have⟨_,_,h⟩:=bs h
 refine Qa [4,5,6,7,8] ?_
 refine tIfs h [1,2,3,4,5,6] (λ_ h=>?_) (λ_ h=>?_)
 ·refine QJ [v0 (box (Qe.cs zz0) (m0 2))] [3] [1,5] λm1=>?_
  exact Qo h (·▸Ql hpl)
 have⟨_,_,_,_,_,_,_,_,h⟩:=bs4 h
 refine Qa [16,18,19,20] ?_
 refine tIfs h [1,2,3,4,5] (λ_ h=>?_) (λ_ h=>?_)
 ·refine QJ [v0 (box (Qe.cs zz0) (m0 2))] [3] [1,6] λm2=>?_
  exact Qo h (·▸Ql hpl)
 have⟨_,h0,t0,h1,h⟩:=bs2 h
 replace h:=bk h0 h
 replace h:=bk h1 h
 refine QJ [v0 (box (Qe.cs t0) (m0 2))] [21] [19,24] λm3=>?_
 exact Qo h (·▸Ql hpl)
def Qhr (x_:Qb) (kind_:Int) (field_:Int) (up_:Int):Option (Int):=(if (decide (up_<0))=true then (some (12:Int)) else (Qgf x_ kind_ field_).bind λt0=>(idx x_.Xa kind_).bind λt1=>(idx t1.Xb field_).bind λt2=>(if (t2.Xi==7)=true then (opt ((t0.1 !=6)==false) (QbY x_ (t0.2).Of) default).bind λt3=>(if ((t0.1 !=6)||(t3 !=kind_))=true then (some (13:Int)) else (some (0:Int))) else (if (((((decide (t0.1<0))||(t0.1==0))||(t0.1==1))||(t0.1==6))||(t0.1==7))=true then (some (13:Int)) else (some (0:Int)))))
instance QBu:Spc4 prog 191 Qhr (λx_ kind_ field_ up_=>[Qc.ty x_,ti kind_,ti field_,ti up_]) ti:=.mk λ{x_ kind_ field_ up_ r} h=>by
 unfold Qhr at h
 refine Fe func191 ntmps191 λM0 M w0 hpl=>?_
 refine Qa [0,3,4,5] ?_
 refine tIfs h [1,2,3,4] (λ_ h=>?_) (λ_ h=>?_)
 ·refine Qa [0] ?_
  exact Qo h (·▸Ql hpl)
 have⟨t0,_,h⟩:=bs h
 refine QJ [v1 7 (λv0=>box (Qe.cs zz0) v0),v1 7 (λv0=>box (Qe.cs t0.2) v0)] [8,10] [7,8,10,11,12] λm0=>?_
 refine QY (λ_ _ H=>((H.Xl 0 rfl).add 0 rfl (λ_ _ _ h=>h.2)).pick [0,3,4,5,6]) ?_
 have⟨_,_,_,_,h⟩:=bs2 h
 refine tIfs h [10,11,12,13,14] (λ_ h=>?_) (λ_ h=>?_)
 ·have⟨_,_,h⟩:=bs h
  refine tIfs h [9] (λ_ h=>?_) (λ_ h=>?_)
  ·refine Qa [0] ?_
   exact Qo h (·▸Ql hpl)
  refine Qa [0] ?_
  exact Qo h (·▸Ql hpl)
 refine tIfs h [17] (λ_ h=>?_) (λ_ h=>?_)
 ·refine Qa [0] ?_
  exact Qo h (·▸Ql hpl)
 refine Qa [0] ?_
 exact Qo h (·▸Ql hpl)
def Qgg (x_:Qb) (kind_:Int) (field_:Int):Option (Int):=(idx x_.Xa kind_).bind λt0=>(idx t0.Xb field_).bind λt1=>(Qfb x_ kind_ field_).bind λt2=>(if ((t1.Xi==0)&&(decide (field_>0)))=true then (some (13:Int)) else ((if (t1.Xi==0)=true then (some (t1.Xi==0)) else ((if (t1.Xi==2)=true then (some (t1.Xi==2)) else (some (t1.Xi==3)))).bind λp0=>(some p0))).bind λp1=>(if p1=true then (some (0:Int)) else (jn (λ(_:Unit)=>(some (0:Int))) λj131=>(if (t1.Xi==1)=true then (if (decide (t2<0))=true then (some (12:Int)) else (j131 ())) else (jn (λ(_:Unit)=>(j131 ())) λj186=>(if (t1.Xi==4)=true then (idx x_.Xa kind_).bind λt3=>(Qbg t3 t1.Of).bind λt4=>(if (t1.Of==([]:Str))=true then (some (0:Int)) else (if ((decide (t4<0))||(decide (t4>=field_)))=true then (some (12:Int)) else (idx x_.Xa kind_).bind λt5=>(idx t5.Xb t4).bind λt6=>(if (t6.Xi !=4)=true then (some (12:Int)) else (j186 ())))) else (if (t1.Xi==5)=true then (Qm (λ(s0:Int)=>((if (decide (s0<(x_.Xd.length:Int)))=true then (idx x_.Xd s0).bind λt7=>(if (t7.Xj==t1.Of)=true then (some (.inr (.inr (0:Int)))) else (some (.inl (i64.wrap (s0+1))))) else (some (.inr (.inl ())))):Option ((Int)⊕((Unit)⊕(Int))))) (0:Int)).bind λe0=>(match e0 with | .inl _=>(some (12:Int)) | .inr p2=>(some p2)) else (if (t1.Xi==6)=true then (QgT x_ kind_ field_).bind λt8=>(if (decide (t8.1<0))=true then (some (12:Int)) else (if ((t8.2.length:Int) !=1)=true then (some (11:Int)) else (j186 ()))) else (Qhr x_ kind_ field_ t2).bind λt9=>(some t9)))))))))
instance QBv:Spc3 prog 149 Qgg (λx_ kind_ field_=>[Qc.ty x_,ti kind_,ti field_]) ti:=.mk λ{x_ kind_ field_ r} h=>by
 unfold Qgg at h
 refine Fe func149 ntmps149 λM0 M w0 hpl=>?_
 refine Qa [0,3,4] ?_
 have⟨_,_,t0,_,h⟩:=bs2 h
 refine QJ [v1 9 (λv0=>box (Qe.cs zz0) v0),v1 9 (λv0=>box (Qe.cs t0) v0)] [10,11] [9,10,11,12] λm0=>?_
 refine QY (λ_ _ H=>((H.Xl 0 rfl).add 0 rfl (λ_ _ _ h=>h.2)).pick [0,3,4,5]) ?_
 have⟨t1,_,h⟩:=bs h
 refine Qa [4,5,6,7,8] ?_
 refine tIfs h [6,7,8,9,10,11] (λ_ h=>?_) (λ_ h=>?_)
 ·refine Qa [0] ?_
  exact Qo h (·▸Ql hpl)
 refine Qf λK0 k0=>?_
 refine Qa [1,3,4,5,6,7] ?_
 refine Qj ?_
 refine Qf λK1 k1=>?_
 refine Qa [1,2,3,4,5,6,7] ?_
 have⟨p0,h0,h⟩:=bs h
 have J0:To M w0 111 [(40,tb p0),(34,ti t0.Xi),(8,ti t1),(7,tptr (Qe.cs t0)),(3,tptr (Qc.cs x_)),(1,ti kind_),(2,ti field_)] [] K1:=by
  refine k1 <|Qn h (λ_ h=>?_) (λ_ h=>?_)
  ·refine Qa [0] ?_;exact Qo h (·▸Ql hpl)
  refine Qa [1,3,4,5,6,7,8] ?_;obtain⟨j131,hj131,h⟩:=QiO h;have J1:∀(p1:Unit),j131 p1=some r->To M w0 111 [] [] K0:=by
   intro p1 h;rw[hj131] at h;clear hj131;refine k0 <|Qa [0] ?_;exact Qo h (·▸Ql hpl)
  clear hj131;refine Qn h (λ_ h=>?_) (λ_ h=>?_)
  ·refine Qa [1] ?_;refine Qn h (λ_ h=>?_) (λ_ h=>?_)
   ·refine Qa [0] ?_;exact Qo h (·▸Ql hpl)
   refine Qq <|Qu J1 h []
  refine Qa [1,3,4,5,6,7,8] ?_;obtain⟨j186,hj186,h⟩:=QiO h;have J2:∀(p2:Unit),j186 p2=some r->To M w0 111 [] [] K0:=by
   intro p2 h;rw[hj186] at h;clear hj186;exact Qu J1 h []
  clear hj186;refine Qn h (λ_ h=>?_) (λ_ h=>?_)
  ·have⟨_,_,_,_,h⟩:=bs2 h;refine Qa [8,12,13,14,15] ?_;refine tIfs h [2,3,5,6,7] (λ_ h=>?_) (λ_ h=>?_)
   ·refine Qa [0] ?_;exact Qo h (·▸Ql hpl)
   refine tIfs h [6,8,9,10] (λ_ h=>?_) (λ_ h=>?_)
   ·refine Qa [0] ?_;exact Qo h (·▸Ql hpl)
   have⟨_,_,_,_,h⟩:=bs2 h;refine Qa [10] ?_;refine Qn h (λ_ h=>?_) (λ_ h=>?_)
   ·refine Qa [0] ?_;exact Qo h (·▸Ql hpl)
   refine Qq <|Qu J2 h []
  refine Qa [1,3,4,5,6,7,8] ?_;refine Qn h (λ_ h=>?_) (λ_ h=>?_)
  ·refine Qf λK2 k2=>Qa [0,4,5] ?_;have⟨e0,h1,h⟩:=bs h;have J3:∀(p3:Unit),(.inl p3)=e0->To M w0 111 [] [] K2:=by
    intro p3 he;subst he;simp only at h;refine k2 <|Qa [0] ?_;exact Qo h (·▸Ql hpl)
   have J4:∀(p4:Int),(.inr p4)=e0->To M w0 111 [(6,ti p4)] [] (Ret prog f149 M0 [] w0 (λ_=>[]) (λ_=>ti r) .ret):=by
    intro p4 he;subst he;simp only at h;obtain rfl:=sj h;exact Ql hpl
   refine Qj <|Qai h1 (λ(s0:Int)=>[(10,ti s0),(7,tptr (Qe.cs t0)),(3,tptr (Qc.cs x_))]) (λ(s0:Int)=>[]) [0,1,2] ?_;clear h;intro s0 o K3 h ho k3;refine Qf λ_ k4=>Qa [4,5,6,7] ?_;refine Qn h (λ_ h=>?_) (λ_ h=>?_)
   ·refine Qq <|k4 <|Qf λ_ k5=>Qj ?_;have⟨_,_,h⟩:=bs h;refine Qa [8,10,11,12] ?_;refine Qn h (λ_ h=>?_) (λ_ h=>?_)
    ·refine Qa [0] ?_;refine Qam ?_;exact Qu J4 (ho _ (sj h).symm) [0]
    refine Qq <|k5 <|QL [2,4,5] ?_;exact Qu k3 ((sj h).symm) [0,1,2]
   refine QO <|Qu J3 (ho _ (sj h).symm) []
  refine Qa [1,4,6,7,8] ?_;refine Qn h (λ_ h=>?_) (λ_ h=>?_)
  ·have⟨_,_,h⟩:=bs h;refine Qa [7,8] ?_;refine tIfs h [1,3] (λ_ h=>?_) (λ_ h=>?_)
   ·refine Qa [0] ?_;exact Qo h (·▸Ql hpl)
   refine Qa [2] ?_;refine Qn h (λ_ h=>?_) (λ_ h=>?_)
   ·refine Qa [0] ?_;exact Qo h (·▸Ql hpl)
   refine Qq <|Qu J2 h []
  have⟨_,_,h⟩:=bs h;refine Qa [5] ?_;exact Qo h (·▸Ql hpl)
 replace h:=h0;clear h0;refine Qn h (λ_ h=>?_) (λ_ h=>?_)
 ·refine Qq ?_;obtain rfl:=sj h;exact QK J0 [0,1,2,3,4,5,6]
 refine Qa [1,2,3,4,5,6,7] ?_;have⟨p5,h2,h⟩:=bs h;have J5:To M w0 111 [(40,tb p5),(34,ti t0.Xi),(8,ti t1),(7,tptr (Qe.cs t0)),(3,tptr (Qc.cs x_)),(1,ti kind_),(2,ti field_)] [] K1:=by
  obtain rfl:=sj h;exact QK J0 [0,1,2,3,4,5,6]
 replace h:=h2;clear h2;refine Qn h (λ_ h=>?_) (λ_ h=>?_)
 ·refine Qq ?_;obtain rfl:=sj h;exact QK J5 [0,1,2,3,4,5,6]
 refine QL [1,2,3,4,5,6,7] ?_;obtain rfl:=sj h;exact QK J5 [0,1,2,3,4,5,6]
def Qgh (x_:Qb) (i_:Int):Option (Int):=(idx x_.Xc i_).bind λt0=>(Qm (λ(s0:Int)=>((if (decide (s0<i_))=true then (idx x_.Xc s0).bind λt1=>(if (t1.Xj==t0.Xj)=true then (some (.inr (.inr (7:Int)))) else (some (.inl (i64.wrap (s0+1))))) else (some (.inr (.inl ())))):Option ((Int)⊕((Unit)⊕(Int))))) (0:Int)).bind λe0=>(match e0 with | .inl _=>(QbY x_ t0.Xi).bind λt2=>(if (decide (t2<0))=true then (some (12:Int)) else (Qm (λ(s1:Int×Bool)=>((if (decide (s1.1<2))=true then (jn (λ(p0:Bool)=>(some (.inl ((i64.wrap (s1.1+1)),p0)))) λj107=>(idx [t0.A,t0.B] s1.1).bind λt3=>(if (t3==([]:Str))=true then (j107 s1.2) else (idx x_.Xa t2).bind λt4=>(idx [t0.A,t0.B] s1.1).bind λt5=>(Qbg t4 t5).bind λt6=>(if (decide (t6<0))=true then (some (.inr (.inr (12:Int)))) else (idx x_.Xa t2).bind λt7=>(idx t7.Xb t6).bind λt8=>(j107 (s1.2||((t8.Xi !=2)&&(t8.Xi !=4))))))) else (some (.inr (.inl s1.2)))):Option ((Int×Bool)⊕((Bool)⊕(Int))))) ((0:Int),false)).bind λe1=>(match e1 with | .inl p1=>(if p1=true then (some (13:Int)) else (if (t0.A==t0.B)=true then (some (1:Int)) else (some (0:Int)))) | .inr p2=>(some p2))) | .inr p3=>(some p3))
instance QBw:Spc2 prog 150 Qgh (λx_ i_=>[Qc.ty x_,ti i_]) ti:=.mk λ{x_ i_ r} h=>by
 unfold Qgh at h
 refine Fe func150 ntmps150 λM0 M w0 hpl=>?_
 refine Qa [0,3] ?_
 have⟨t0,_,h⟩:=bs h
 refine QJ [v1 5 (λv0=>box (Qt.cs zz3) v0),v1 5 (λv0=>box (Qt.cs t0) v0)] [6,7] [5,6,7] λm0=>?_
 refine QY (λ_ _ H=>((H.Xl 0 rfl).add 0 rfl (λ_ _ _ h=>h.2)).pick [0,3,4]) ?_
 refine Qf λK0 k0=>?_
 refine Qa [0,1,2,3] ?_
 have⟨e0,h0,h⟩:=bs h
 have J0:∀(p0:Unit),(.inl p0)=e0->To M w0 89 [(5,tptr (Qt.cs t0)),(2,tptr (Qc.cs x_))] [] K0:=by
  intro p0 he;subst he;simp only at h;refine k0 ?_;have⟨t1,_,h⟩:=bs h;refine Qa [4,5,6] ?_;refine tIfs h [1,2,3,4] (λ_ h=>?_) (λ_ h=>?_)
  ·refine Qa [0] ?_;exact Qo h (·▸Ql hpl)
  refine Qa [5,7,8,9] ?_;refine Qa [0,1,2,3,4] ?_;refine Qf λK1 k1=>Qa [0,1,2,3,4,5] ?_;have⟨e1,h1,h⟩:=bs h;have J1:∀(p1:Bool),(.inl p1)=e1->To M w0 89 [(9,tb p1),(5,tptr (Qt.cs t0))] [] K1:=by
   intro p1 he;subst he;simp only at h;refine k1 <|tIfs h [0,2] (λ_ h=>?_) (λ_ h=>?_)
   ·refine Qa [0] ?_;exact Qo h (·▸Ql hpl)
   refine tIfs h [4] (λ_ h=>?_) (λ_ h=>?_)
   ·refine Qa [0] ?_;exact Qo h (·▸Ql hpl)
   refine Qa [0] ?_;exact Qo h (·▸Ql hpl)
  have J2:∀(p2:Int),(.inr p2)=e1->To M w0 89 [(4,ti p2)] [] (Ret prog f150 M0 [] w0 (λ_=>[]) (λ_=>ti r) .ret):=by
   intro p2 he;subst he;simp only at h;obtain rfl:=sj h;exact Ql hpl
  refine Qj <|Qai h1 (λ(s0:Int×Bool)=>[(10,ti s0.1),(9,tb s0.2),(8,tsl rS [t0.A,t0.B]),(7,ti t1),(5,tptr (Qt.cs t0)),(2,tptr (Qc.cs x_))]) (λ(s0:Int×Bool)=>[]) [0,1,2,3,4,5] ?_;clear h;intro s0 o K2 h ho k2;refine Qf λ_ k3=>Qa [1,2,3,4,5,6,7] ?_;refine Qn h (λ_ h=>?_) (λ_ h=>?_)
  ·refine Qq <|k3 <|Qf λK3 k4=>?_;obtain⟨j107,hj107,h⟩:=QiO h;have J3:∀(p3:Bool),j107 p3=some o->To M w0 89 [(10,ti s0.1),(9,tb p3),(8,tsl rS [t0.A,t0.B]),(7,ti t1),(5,tptr (Qt.cs t0)),(2,tptr (Qc.cs x_))] [] K3:=by
    intro p3 h;rw[hj107] at h;clear hj107;refine k4 <|QL [2,3,4,5,6,7] ?_;exact Qu k2 ((sj h).symm) [0,1,2,3,4,5]
   clear hj107;refine Qj ?_;have⟨_,_,h⟩:=bs h;refine tIfs h [4,6,7,8,9,10,11] (λ_ h=>?_) (λ_ h=>?_)
   ·refine QO <|Qu J3 h [1,2,3,4,5,6]
   have⟨_,_,_,_,_,_,h⟩:=bs3 h;refine Qa [10,12,13,14,15,16,17] ?_;refine tIfs h [1,2,3,4,5,6,7,8] (λ_ h=>?_) (λ_ h=>?_)
   ·refine Qa [0] ?_;refine Qam ?_;exact Qu J2 (ho _ (sj h).symm) [0]
   have⟨_,_,_,_,h⟩:=bs2 h;refine Qa [10,13,14,15,16,17,18] ?_;refine QL [9,11,12,13,14,15] ?_;exact Qu J3 h [1,0,2,3,4,5]
  refine QO <|Qu J1 (ho _ (sj h).symm) [2,5]
 have J4:∀(p4:Int),(.inr p4)=e0->To M w0 89 [(4,ti p4)] [] (Ret prog f150 M0 [] w0 (λ_=>[]) (λ_=>ti r) .ret):=by
  intro p4 he;subst he;simp only at h;obtain rfl:=sj h;exact Ql hpl
 refine Qj <|Qai h0 (λ(s1:Int)=>[(6,ti s1),(5,tptr (Qt.cs t0)),(2,tptr (Qc.cs x_)),(1,ti i_)]) (λ(s1:Int)=>[]) [0,1,2,3] ?_;clear h;intro s1 o K4 h ho k5;refine Qf λ_ k6=>Qa [2,3,4,5,6] ?_;refine Qn h (λ_ h=>?_) (λ_ h=>?_)
 ·refine Qq <|k6 <|Qf λ_ k7=>Qj ?_;have⟨_,_,h⟩:=bs h;refine Qa [8,10,11,12,13] ?_;refine Qn h (λ_ h=>?_) (λ_ h=>?_)
  ·refine Qa [0] ?_;refine Qam ?_;exact Qu J4 (ho _ (sj h).symm) [0]
  refine Qq <|k7 <|QL [2,4,5,6] ?_;exact Qu k5 ((sj h).symm) [0,1,2,3]
 refine QO <|Qu J0 (ho _ (sj h).symm) [2,3]
