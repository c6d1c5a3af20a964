/- The walk. No condition. -/
import Derived.Test.YtjioihpegfgbpaaGreatDoorGenD
set_option linter.all false
open Go.Proofs.Tryz Go.IntKind
namespace Go.Proofs.YtjioihpegfgbpaaGreatDoor
noncomputable section
open Go.Sim
set_option maxRecDepth 100000
set_option maxHeartbeats 4000000
def Qg1 (x_:Qa):Option (Int):=(Qa2 x_.Version 0 1048576).bind λt0=>(if ((((!t0)||(decide ((x_.Xa.length:Int)>6)))||(decide ((x_.Xd.length:Int)>6)))||(decide ((x_.Xc.length:Int)>16)))=true then (some (1:Int)) else (Qz (λ(s0:Int)=>((if (decide (s0<(x_.Xa.length:Int)))=true then (idx x_.Xa s0).bind λt1=>(Qgl t1).bind λt2=>(if (!t2)=true then (some (.inr (.inr (1:Int)))) else (some (.inl (i64.wrap (s0+1))))) else (some (.inr (.inl ())))):Option ((Int)⊕((Unit)⊕(Int))))) (0:Int)).bind λe0=>(match e0 with | .inl _=>(Qz (λ(s1:Int)=>((if (decide (s1<(x_.Xd.length:Int)))=true then (idx x_.Xd s1).bind λt3=>(Qgm t3).bind λt4=>(if (!t4)=true then (some (.inr (.inr (1:Int)))) else (some (.inl (i64.wrap (s1+1))))) else (some (.inr (.inl ())))):Option ((Int)⊕((Unit)⊕(Int))))) (0:Int)).bind λe1=>(match e1 with | .inl _=>(Qz (λ(s2:Int)=>((if (decide (s2<(x_.Xc.length:Int)))=true then (idx x_.Xc s2).bind λt5=>(Qgn t5).bind λt6=>(if (!t6)=true then (some (.inr (.inr (1:Int)))) else (some (.inl (i64.wrap (s2+1))))) else (some (.inr (.inl ())))):Option ((Int)⊕((Unit)⊕(Int))))) (0:Int)).bind λe2=>(match e2 with | .inl _=>(Qgo x_).bind λt7=>(if (decide ((t7.length:Int)>8192))=true then (some (4:Int)) else (some (0:Int))) | .inr p0=>(some p0)) | .inr p1=>(some p1)) | .inr p2=>(some p2)))
instance Qx7:Spc1 prog 58 Qg1 (λx_=>[Qb.ty x_]) ti:=.mk λ{x_ r} h=>by
 unfold Qg1 at h
 refine Fe func58 ntmps58 λM0 M w0 hpl=>?_
 refine QyV [0] ?_
 have⟨_,_,h⟩:=bs h
 refine tIfs h [21,22] (λ_ h=>?_) (λ_ h=>?_)
 ·refine QyV [0] ?_
  exact QyZ h (·▸QyX hpl)
 refine QyY λK0 k0=>?_
 refine QyV [0,2] ?_
 have⟨e0,h0,h⟩:=bs h
 have J0:∀(p0:Unit),(.inl p0)=e0->To M w0 74 [(1,tptr (Qb.cs x_))] [] K0:=by
  intro p0 he;subst he;simp only at h;refine k0 <|QyY λK1 k1=>QyV [0,1] ?_;have⟨e1,h1,h⟩:=bs h;have J1:∀(p1:Unit),(.inl p1)=e1->To M w0 74 [(1,tptr (Qb.cs x_))] [] K1:=by
   intro p1 he;subst he;simp only at h;refine k1 <|QyY λK2 k2=>QyV [0,1] ?_;have⟨e2,h2,h⟩:=bs h;have J2:∀(p2:Unit),(.inl p2)=e2->To M w0 74 [(1,tptr (Qb.cs x_))] [] K2:=by
    intro p2 he;subst he;simp only at h;refine k2 ?_;have⟨_,_,h⟩:=bs h;refine tIfs h [3] (λ_ h=>?_) (λ_ h=>?_)
    ·refine QyV [0] ?_;exact QyZ h (·▸QyX hpl)
    refine QyV [0] ?_;exact QyZ h (·▸QyX hpl)
   have J3:∀(p3:Int),(.inr p3)=e2->To M w0 74 [(2,ti p3)] [] (Ret prog f58 M0 [] w0 (λ_=>[]) (λ_=>ti r) .ret):=by
    intro p3 he;subst he;simp only at h;obtain rfl:=sj h;exact QyX hpl
   refine Qy1 <|Qzb h2 (λ(s0:Int)=>[(5,ti s0),(1,tptr (Qb.cs x_))]) (λ(s0:Int)=>[]) [0,1] ?_;clear h;intro s0 o K3 h ho k3;refine QyY λ_ k4=>QyV [4,5,6] ?_;refine Qy0 h (λ_ h=>?_) (λ_ h=>?_)
   ·refine Qy2 <|k4 <|QyY λ_ k5=>Qy1 ?_;have⟨_,_,_,_,h⟩:=bs2 h;refine QyV [6,8,9] ?_;refine Qy0 h (λ_ h=>?_) (λ_ h=>?_)
    ·refine QyV [0] ?_;refine Qzd ?_;exact Qy4 J3 (ho _ (sj h).symm) [0]
    refine Qy2 <|k5 <|Qy6 [2,4] ?_;exact Qy4 k3 ((sj h).symm) [0,1]
   refine Qy7 <|Qy4 J2 (ho _ (sj h).symm) [2]
  have J4:∀(p4:Int),(.inr p4)=e1->To M w0 74 [(2,ti p4)] [] (Ret prog f58 M0 [] w0 (λ_=>[]) (λ_=>ti r) .ret):=by
   intro p4 he;subst he;simp only at h;obtain rfl:=sj h;exact QyX hpl
  refine Qy1 <|Qzb h1 (λ(s1:Int)=>[(4,ti s1),(1,tptr (Qb.cs x_))]) (λ(s1:Int)=>[]) [0,1] ?_;clear h;intro s1 o K4 h ho k6;refine QyY λ_ k7=>QyV [4,5,6] ?_;refine Qy0 h (λ_ h=>?_) (λ_ h=>?_)
  ·refine Qy2 <|k7 <|QyY λ_ k8=>Qy1 ?_;have⟨_,_,_,_,h⟩:=bs2 h;refine QyV [6,8,9] ?_;refine Qy0 h (λ_ h=>?_) (λ_ h=>?_)
   ·refine QyV [0] ?_;refine Qzd ?_;exact Qy4 J4 (ho _ (sj h).symm) [0]
   refine Qy2 <|k8 <|Qy6 [2,4] ?_;exact Qy4 k6 ((sj h).symm) [0,1]
  refine Qy7 <|Qy4 J1 (ho _ (sj h).symm) [2]
 have J5:∀(p5:Int),(.inr p5)=e0->To M w0 74 [(2,ti p5)] [] (Ret prog f58 M0 [] w0 (λ_=>[]) (λ_=>ti r) .ret):=by
  intro p5 he;subst he;simp only at h;obtain rfl:=sj h;exact QyX hpl
 refine Qy1 <|Qzb h0 (λ(s2:Int)=>[(3,ti s2),(1,tptr (Qb.cs x_))]) (λ(s2:Int)=>[]) [0,1] ?_;clear h;intro s2 o K5 h ho k9;refine QyY λ_ k10=>QyV [4,5,6] ?_;refine Qy0 h (λ_ h=>?_) (λ_ h=>?_)
 ·refine Qy2 <|k10 <|QyY λ_ k11=>Qy1 ?_;have⟨_,_,_,_,h⟩:=bs2 h;refine QyV [6,8,9] ?_;refine Qy0 h (λ_ h=>?_) (λ_ h=>?_)
  ·refine QyV [0] ?_;refine Qzd ?_;exact Qy4 J5 (ho _ (sj h).symm) [0]
  refine Qy2 <|k11 <|Qy6 [2,4] ?_;exact Qy4 k9 ((sj h).symm) [0,1]
 refine Qy7 <|Qy4 J0 (ho _ (sj h).symm) [2]
def Qcu (l_:(List QP)) (kind_:Int) (field_:Int) (rule_:Int) (e_:Int):Option ((List QP)):=(if (e_==0)=true then (some l_) else (rm (l_.length+[(QP.mk kind_ field_ rule_ e_)].length)).bind λ_=>(some (l_++[(QP.mk kind_ field_ rule_ e_)])))
instance QyT:SpcS prog 59 (∀{vh0:Value} {l_:(List QP)} {kind_:Int} {field_:Int} {rule_:Int} {e_:Int} {r:(List QP)},Qcu l_ kind_ field_ rule_ e_=some r->FnOk prog 59 [tv vh0,ti kind_,ti field_,ti rule_,ti e_] [own Qai 101 l_ vh0] (λv=>[own Qai 101 r v]) (λv=>tv v)):=.mk λ{vh0 l_ kind_ field_ rule_ e_ r} h=>by
 unfold Qcu at h
 refine Fe func59 ntmps59 λM0 M w0 hpl=>?_
 refine QyV [1,2,3,4,5] ?_
 refine tIfs h [1,2,3,4,5,6] (λ_ h=>?_) (λ_ h=>?_)
 ·refine QyV [0,1,3] ?_
  exact QyZ h (·▸Qzi vh0 [0] hpl)
 have⟨_,_,h⟩:=bs h
 refine Qy5 [v1 7 (λv0=>own Qai 101 (l_++[(QP.mk kind_ field_ rule_ e_)]) v0)] [8] [7,8] λm0=>?_
 exact QyZ h (·▸Qzi (m0 7) [0] hpl)
def Qg2 (l_:(List Qd)):Option (Bool):=(if ((l_.length:Int)==0)=true then (some false) else (idx l_ 0).bind λt0=>(some (t0.Xh==0)))
instance Qx8:Spc1 prog 60 Qg2 (λl_=>[tsl Qe l_]) tb:=.mk λ{l_ r} h=>by
 unfold Qg2 at h
 refine Fe func60 ntmps60 λM0 M w0 hpl=>?_
 refine QyV [1] ?_
 refine tIfs h [2,3] (λ_ h=>?_) (λ_ h=>?_)
 ·refine QyV [0] ?_
  exact QyZ h (·▸QyX hpl)
 have⟨_,_,h⟩:=bs h
 refine QyV [5] ?_
 exact QyZ h (·▸QyX hpl)
def QhQ (x_:Qa) (kind_:Int) (field_:Int):Option (Int×(List Int)):=(idx x_.Xa kind_).bind λt0=>(idx t0.Xb field_).bind λt1=>(Qcp x_ t1.Of).bind λt2=>(if ((t1.Xh !=6)||(decide (t2<=kind_)))=true then (some ((-1:Int),([]:List Int))) else (idx x_.Xa t2).bind λt3=>(Qz (λ(s0:Int×List Int)=>((if (decide (s0.1<(t3.Xb.length:Int)))=true then (idx t3.Xb s0.1).bind λt4=>(opt ((t4.Xh==7)==true) (idx t3.Xb s0.1) default).bind λt5=>(opt (((t4.Xh==7)&&(t5.Of==t1.Xi))==true) (Qfa x_ t2 s0.1) default).bind λt6=>((if (((t4.Xh==7)&&(t5.Of==t1.Xi))&&(t6==kind_))=true then (rm (s0.2.length+[s0.1].length)).bind λ_=>(some (s0.2++[s0.1])) else (some s0.2))).bind λp0=>(some (.inl ((i64.wrap (s0.1+1)),p0))) else (some (.inr s0.2))):Option ((Int×List Int)⊕((List Int))))) ((0:Int),([]:List Int))).bind λp1=>(some (t2,p1)))
instance QyQ:Spc3 prog 80 QhQ (λx_ kind_ field_=>[Qb.ty x_,ti kind_,ti field_]) (λr=>ttup [ti r.1,tsl rI r.2]):=.mk λ{x_ kind_ field_ r} h=>by
 unfold QhQ at h
 refine Fe func80 ntmps80 λM0 M w0 hpl=>?_
 refine QyV [0,4,5] ?_
 have⟨_,_,t0,_,h⟩:=bs2 h
 refine Qy5 [v1 9 (λv0=>box (Qe.cs zz0) v0),v1 9 (λv0=>box (Qe.cs t0) v0)] [10,11] [9,10,11] λm0=>?_
 refine Qy9 (λ_ _ H=>((H.Xk 0 rfl).add 0 rfl (λ_ _ _ h=>h.2)).pick [0,3,4]) ?_
 have⟨t1,_,h⟩:=bs h
 refine QyV [4,5,6,7] ?_
 refine tIfs h [7,8,9,10,11] (λ_ h=>?_) (λ_ h=>?_)
 ·refine QyV [0,1] ?_
  exact QyZ h (·▸QyX hpl)
 refine QyV [0,2,3,4,5] ?_
 refine Qy9 (λ_ _ H=>H.nil (rI) 3) ?_
 have⟨t2,_,h⟩:=bs h
 refine QyV [6,7,8,9,10,11] ?_
 refine QyY λK0 k0=>?_
 refine QyV [0,1,2,3,4,5,6] ?_
 have⟨e0,h0,h⟩:=bs h
 have J0:∀(p0:List Int) (y0:Value),p0=e0->To M w0 76 [(10,tv y0),(9,ti t1)] [own rI 3 p0 y0] K0:=by
  intro p0 y0 he;subst he;refine k0 <|QyV [1,2,3,4] ?_;refine Qzd ?_;refine Qzc (by intro _ _ H;exact (H.Xm 2 rfl).pick [0,2]) ?_;obtain rfl:=sj h;exact QyX hpl
 refine Qy1 <|Qzf h0 (λ(s0:Int×List Int) (y1:Value)=>[(12,ti s0.1),(11,tsl Qe t2.Xb),(10,tv y1),(9,ti t1),(8,tptr (Qe.cs t0)),(3,tptr (Qb.cs x_)),(1,ti kind_)]) (λ(s0:Int×List Int) (y1:Value)=>[own rI 3 s0.2 y1]) (.slice none 0 0) [0,1,2,3,4,5,6] ?_;clear h;intro s0 y1 o K1 h ho k1;refine QyY λ_ k2=>QyV [3,4,5,6,7,8,9,10] ?_;refine Qy0 h (λ_ h=>?_) (λ_ h=>?_)
 ·refine Qy2 <|k2 <|QyY λK2 k3=>Qy1 ?_;have⟨_,_,_,_,_,_,h⟩:=bs3 h;refine QyV [23,25,26,27,28,29,30,31] ?_;have⟨p1,h1,h⟩:=bs h;have J1:∀(y2:Value),To M w0 76 [(10,tv y2),(12,ti s0.1),(11,tsl Qe t2.Xb),(9,ti t1),(8,tptr (Qe.cs t0)),(3,tptr (Qb.cs x_)),(1,ti kind_)] [own rI 3 p1 y2] K2:=by
   intro y2;refine k3 <|Qy6 [2,3,4,5,6,7,8] ?_;exact Qy8 k1 y2 ((sj h).symm) [0,2,1,3,4,5,6]
  replace h:=h1;clear h1;refine Qy0 h (λ_ h=>?_) (λ_ h=>?_)
  ·have⟨_,_,h⟩:=bs h;refine Qza [v1 3 (λv0=>own rI 3 (s0.2++[s0.1]) v0)] [4] [3,4,6,7,8,9,10,11] λm1=>?_;obtain rfl:=sj h;exact Qy3 (J1 (m1 3)) [1,2,3,4,5,6,7]
  refine Qy2 ?_;obtain rfl:=sj h;exact Qy3 (J1 y1) [3,1,2,4,5,6,7]
 refine Qy7 <|Qy8 J0 y1 (ho _ (sj h).symm) [3,4]
def Qg3 (x_:Qa) (kind_:Int) (field_:Int):Option (Int×Qd):=(Qfa x_ kind_ field_).bind λt0=>(if (decide (t0<0))=true then (some ((-1:Int),zz0)) else (idx x_.Xa t0).bind λt1=>(idx x_.Xa kind_).bind λt2=>(idx t2.Xb field_).bind λt3=>(Qcf t1 t3.Of).bind λt4=>(if (decide (t4<0))=true then (some ((-1:Int),zz0)) else (idx x_.Xa t0).bind λt5=>(idx t5.Xb t4).bind λt6=>(idx x_.Xa t0).bind λt7=>(idx t7.Xb t4).bind λt8=>(some (t6.Xh,t8))))
instance Qx9:Spc3 prog 105 Qg3 (λx_ kind_ field_=>[Qb.ty x_,ti kind_,ti field_]) (λr=>ttup [ti r.1,Qe.ty r.2]):=.mk λ{x_ kind_ field_ r} h=>by
 unfold Qg3 at h
 refine Fe func105 ntmps105 λM0 M w0 hpl=>?_
 refine Qy5 [v1 2 (λv0=>box (Qe.cs zz0) v0)] [3] [0,2,4,5] λm0=>?_
 have⟨_,_,h⟩:=bs h
 refine QyV [4,5,6,7,8] ?_
 refine tIfs h [1,2,3,4,5,6] (λ_ h=>?_) (λ_ h=>?_)
 ·refine Qy5 [v0 (box (Qe.cs zz0) (m0 2))] [3] [1,5] λm1=>?_
  exact QyZ h (·▸QyX hpl)
 have⟨_,_,_,_,_,_,_,_,h⟩:=bs4 h
 refine QyV [16,18,19,20] ?_
 refine tIfs h [1,2,3,4,5] (λ_ h=>?_) (λ_ h=>?_)
 ·refine Qy5 [v0 (box (Qe.cs zz0) (m0 2))] [3] [1,6] λm2=>?_
  exact QyZ h (·▸QyX hpl)
 have⟨_,h0,t0,h1,h⟩:=bs2 h
 replace h:=bk h0 h
 replace h:=bk h1 h
 refine Qy5 [v0 (box (Qe.cs t0) (m0 2))] [21] [19,24] λm3=>?_
 exact QyZ h (·▸QyX hpl)
def QiA (x_:Qa) (kind_:Int) (field_:Int) (up_:Int):Option (Int):=(if (decide (up_<0))=true then (some (12:Int)) else (Qg3 x_ kind_ field_).bind λt0=>(idx x_.Xa kind_).bind λt1=>(idx t1.Xb field_).bind λt2=>(if (t2.Xh==7)=true then (opt ((t0.1 !=6)==false) (Qcp x_ (t0.2).Of) default).bind λt3=>(if ((t0.1 !=6)||(t3 !=kind_))=true then (some (13:Int)) else (some (0:Int))) else (if (((((decide (t0.1<0))||(t0.1==0))||(t0.1==1))||(t0.1==6))||(t0.1==7))=true then (some (13:Int)) else (some (0:Int)))))
instance Qya:Spc4 prog 81 QiA (λx_ kind_ field_ up_=>[Qb.ty x_,ti kind_,ti field_,ti up_]) ti:=.mk λ{x_ kind_ field_ up_ r} h=>by
 unfold QiA at h
 refine Fe func81 ntmps81 λM0 M w0 hpl=>?_
 refine QyV [0,3,4,5] ?_
 refine tIfs h [1,2,3,4] (λ_ h=>?_) (λ_ h=>?_)
 ·refine QyV [0] ?_
  exact QyZ h (·▸QyX hpl)
 have⟨t0,_,h⟩:=bs h
 refine Qy5 [v1 7 (λv0=>box (Qe.cs zz0) v0),v1 7 (λv0=>box (Qe.cs t0.2) v0)] [8,10] [7,8,10,11,12] λm0=>?_
 refine Qy9 (λ_ _ H=>((H.Xk 0 rfl).add 0 rfl (λ_ _ _ h=>h.2)).pick [0,3,4,5,6]) ?_
 have⟨_,_,_,_,h⟩:=bs2 h
 refine tIfs h [10,11,12,13,14] (λ_ h=>?_) (λ_ h=>?_)
 ·have⟨_,_,h⟩:=bs h
  refine tIfs h [9] (λ_ h=>?_) (λ_ h=>?_)
  ·refine QyV [0] ?_
   exact QyZ h (·▸QyX hpl)
  refine QyV [0] ?_
  exact QyZ h (·▸QyX hpl)
 refine tIfs h [17] (λ_ h=>?_) (λ_ h=>?_)
 ·refine QyV [0] ?_
  exact QyZ h (·▸QyX hpl)
 refine QyV [0] ?_
 exact QyZ h (·▸QyX hpl)
def Qg4 (x_:Qa) (kind_:Int) (field_:Int):Option (Int):=(idx x_.Xa kind_).bind λt0=>(idx t0.Xb field_).bind λt1=>(Qfa x_ kind_ field_).bind λt2=>(if ((t1.Xh==0)&&(decide (field_>0)))=true then (some (13:Int)) else ((if (t1.Xh==0)=true then (some (t1.Xh==0)) else ((if (t1.Xh==2)=true then (some (t1.Xh==2)) else (some (t1.Xh==3)))).bind λp0=>(some p0))).bind λp1=>(if p1=true then (some (0:Int)) else (jn (λ(_:Unit)=>(some (0:Int))) λj131=>(if (t1.Xh==1)=true then (if (decide (t2<0))=true then (some (12:Int)) else (j131 ())) else (jn (λ(_:Unit)=>(j131 ())) λj186=>(if (t1.Xh==4)=true then (idx x_.Xa kind_).bind λt3=>(Qcf t3 t1.Of).bind λt4=>(if (t1.Of==([]:Str))=true then (some (0:Int)) else (if ((decide (t4<0))||(decide (t4>=field_)))=true then (some (12:Int)) else (idx x_.Xa kind_).bind λt5=>(idx t5.Xb t4).bind λt6=>(if (t6.Xh !=4)=true then (some (12:Int)) else (j186 ())))) else (if (t1.Xh==5)=true then (Qz (λ(s0:Int)=>((if (decide (s0<(x_.Xd.length:Int)))=true then (idx x_.Xd s0).bind λt7=>(if (t7.Xi==t1.Of)=true then (some (.inr (.inr (0:Int)))) else (some (.inl (i64.wrap (s0+1))))) else (some (.inr (.inl ())))):Option ((Int)⊕((Unit)⊕(Int))))) (0:Int)).bind λe0=>(match e0 with | .inl _=>(some (12:Int)) | .inr p2=>(some p2)) else (if (t1.Xh==6)=true then (QhQ x_ kind_ field_).bind λt8=>(if (decide (t8.1<0))=true then (some (12:Int)) else (if ((t8.2.length:Int) !=1)=true then (some (11:Int)) else (j186 ()))) else (QiA x_ kind_ field_ t2).bind λt9=>(some t9)))))))))
instance Qyb:Spc3 prog 61 Qg4 (λx_ kind_ field_=>[Qb.ty x_,ti kind_,ti field_]) ti:=.mk λ{x_ kind_ field_ r} h=>by
 unfold Qg4 at h
 refine Fe func61 ntmps61 λM0 M w0 hpl=>?_
 refine QyV [0,3,4] ?_
 have⟨_,_,t0,_,h⟩:=bs2 h
 refine Qy5 [v1 9 (λv0=>box (Qe.cs zz0) v0),v1 9 (λv0=>box (Qe.cs t0) v0)] [10,11] [9,10,11,12] λm0=>?_
 refine Qy9 (λ_ _ H=>((H.Xk 0 rfl).add 0 rfl (λ_ _ _ h=>h.2)).pick [0,3,4,5]) ?_
 have⟨t1,_,h⟩:=bs h
 refine QyV [4,5,6,7,8] ?_
 refine tIfs h [6,7,8,9,10,11] (λ_ h=>?_) (λ_ h=>?_)
 ·refine QyV [0] ?_
  exact QyZ h (·▸QyX hpl)
 refine QyY λK0 k0=>?_
 refine QyV [1,3,4,5,6,7] ?_
 refine Qy1 ?_
 refine QyY λK1 k1=>?_
 refine QyV [1,2,3,4,5,6,7] ?_
 have⟨p0,h0,h⟩:=bs h
 have J0:To M w0 111 [(40,tb p0),(34,ti t0.Xh),(8,ti t1),(7,tptr (Qe.cs t0)),(3,tptr (Qb.cs x_)),(1,ti kind_),(2,ti field_)] [] K1:=by
  refine k1 <|Qy0 h (λ_ h=>?_) (λ_ h=>?_)
  ·refine QyV [0] ?_;exact QyZ h (·▸QyX hpl)
  refine QyV [1,3,4,5,6,7,8] ?_;obtain⟨j131,hj131,h⟩:=Qgt h;have J1:∀(p1:Unit),j131 p1=some r->To M w0 111 [] [] K0:=by
   intro p1 h;rw[hj131] at h;clear hj131;refine k0 <|QyV [0] ?_;exact QyZ h (·▸QyX hpl)
  clear hj131;refine Qy0 h (λ_ h=>?_) (λ_ h=>?_)
  ·refine QyV [1] ?_;refine Qy0 h (λ_ h=>?_) (λ_ h=>?_)
   ·refine QyV [0] ?_;exact QyZ h (·▸QyX hpl)
   refine Qy2 <|Qy4 J1 h []
  refine QyV [1,3,4,5,6,7,8] ?_;obtain⟨j186,hj186,h⟩:=Qgt h;have J2:∀(p2:Unit),j186 p2=some r->To M w0 111 [] [] K0:=by
   intro p2 h;rw[hj186] at h;clear hj186;exact Qy4 J1 h []
  clear hj186;refine Qy0 h (λ_ h=>?_) (λ_ h=>?_)
  ·have⟨_,_,_,_,h⟩:=bs2 h;refine QyV [8,12,13,14,15] ?_;refine tIfs h [2,3,5,6,7] (λ_ h=>?_) (λ_ h=>?_)
   ·refine QyV [0] ?_;exact QyZ h (·▸QyX hpl)
   refine tIfs h [6,8,9,10] (λ_ h=>?_) (λ_ h=>?_)
   ·refine QyV [0] ?_;exact QyZ h (·▸QyX hpl)
   have⟨_,_,_,_,h⟩:=bs2 h;refine QyV [10] ?_;refine Qy0 h (λ_ h=>?_) (λ_ h=>?_)
   ·refine QyV [0] ?_;exact QyZ h (·▸QyX hpl)
   refine Qy2 <|Qy4 J2 h []
  refine QyV [1,3,4,5,6,7,8] ?_;refine Qy0 h (λ_ h=>?_) (λ_ h=>?_)
  ·refine QyY λK2 k2=>QyV [0,4,5] ?_;have⟨e0,h1,h⟩:=bs h;have J3:∀(p3:Unit),(.inl p3)=e0->To M w0 111 [] [] K2:=by
    intro p3 he;subst he;simp only at h;refine k2 <|QyV [0] ?_;exact QyZ h (·▸QyX hpl)
   have J4:∀(p4:Int),(.inr p4)=e0->To M w0 111 [(6,ti p4)] [] (Ret prog f61 M0 [] w0 (λ_=>[]) (λ_=>ti r) .ret):=by
    intro p4 he;subst he;simp only at h;obtain rfl:=sj h;exact QyX hpl
   refine Qy1 <|Qzb h1 (λ(s0:Int)=>[(10,ti s0),(7,tptr (Qe.cs t0)),(3,tptr (Qb.cs x_))]) (λ(s0:Int)=>[]) [0,1,2] ?_;clear h;intro s0 o K3 h ho k3;refine QyY λ_ k4=>QyV [4,5,6,7] ?_;refine Qy0 h (λ_ h=>?_) (λ_ h=>?_)
   ·refine Qy2 <|k4 <|QyY λ_ k5=>Qy1 ?_;have⟨_,_,h⟩:=bs h;refine QyV [8,10,11,12] ?_;refine Qy0 h (λ_ h=>?_) (λ_ h=>?_)
    ·refine QyV [0] ?_;refine Qzd ?_;exact Qy4 J4 (ho _ (sj h).symm) [0]
    refine Qy2 <|k5 <|Qy6 [2,4,5] ?_;exact Qy4 k3 ((sj h).symm) [0,1,2]
   refine Qy7 <|Qy4 J3 (ho _ (sj h).symm) []
  refine QyV [1,4,6,7,8] ?_;refine Qy0 h (λ_ h=>?_) (λ_ h=>?_)
  ·have⟨_,_,h⟩:=bs h;refine QyV [7,8] ?_;refine tIfs h [1,3] (λ_ h=>?_) (λ_ h=>?_)
   ·refine QyV [0] ?_;exact QyZ h (·▸QyX hpl)
   refine QyV [2] ?_;refine Qy0 h (λ_ h=>?_) (λ_ h=>?_)
   ·refine QyV [0] ?_;exact QyZ h (·▸QyX hpl)
   refine Qy2 <|Qy4 J2 h []
  have⟨_,_,h⟩:=bs h;refine QyV [5] ?_;exact QyZ h (·▸QyX hpl)
 replace h:=h0;clear h0;refine Qy0 h (λ_ h=>?_) (λ_ h=>?_)
 ·refine Qy2 ?_;obtain rfl:=sj h;exact Qy3 J0 [0,1,2,3,4,5,6]
 refine QyV [1,2,3,4,5,6,7] ?_;have⟨p5,h2,h⟩:=bs h;have J5:To M w0 111 [(40,tb p5),(34,ti t0.Xh),(8,ti t1),(7,tptr (Qe.cs t0)),(3,tptr (Qb.cs x_)),(1,ti kind_),(2,ti field_)] [] K1:=by
  obtain rfl:=sj h;exact Qy3 J0 [0,1,2,3,4,5,6]
 replace h:=h2;clear h2;refine Qy0 h (λ_ h=>?_) (λ_ h=>?_)
 ·refine Qy2 ?_;obtain rfl:=sj h;exact Qy3 J5 [0,1,2,3,4,5,6]
 refine Qy6 [1,2,3,4,5,6,7] ?_;obtain rfl:=sj h;exact Qy3 J5 [0,1,2,3,4,5,6]
def Qg5 (x_:Qa) (i_:Int):Option (Int):=(idx x_.Xc i_).bind λt0=>(Qz (λ(s0:Int)=>((if (decide (s0<i_))=true then (idx x_.Xc s0).bind λt1=>(if (t1.Xi==t0.Xi)=true then (some (.inr (.inr (7:Int)))) else (some (.inl (i64.wrap (s0+1))))) else (some (.inr (.inl ())))):Option ((Int)⊕((Unit)⊕(Int))))) (0:Int)).bind λe0=>(match e0 with | .inl _=>(Qcp x_ t0.Xh).bind λt2=>(if (decide (t2<0))=true then (some (12:Int)) else (Qz (λ(s1:Int×Bool)=>((if (decide (s1.1<2))=true then (jn (λ(p0:Bool)=>(some (.inl ((i64.wrap (s1.1+1)),p0)))) λj107=>(idx [t0.A,t0.B] s1.1).bind λt3=>(if (t3==([]:Str))=true then (j107 s1.2) else (idx x_.Xa t2).bind λt4=>(idx [t0.A,t0.B] s1.1).bind λt5=>(Qcf t4 t5).bind λt6=>(if (decide (t6<0))=true then (some (.inr (.inr (12:Int)))) else (idx x_.Xa t2).bind λt7=>(idx t7.Xb t6).bind λt8=>(j107 (s1.2||((t8.Xh !=2)&&(t8.Xh !=4))))))) else (some (.inr (.inl s1.2)))):Option ((Int×Bool)⊕((Bool)⊕(Int))))) ((0:Int),false)).bind λe1=>(match e1 with | .inl p1=>(if p1=true then (some (13:Int)) else (if (t0.A==t0.B)=true then (some (1:Int)) else (some (0:Int)))) | .inr p2=>(some p2))) | .inr p3=>(some p3))
instance Qyc:Spc2 prog 62 Qg5 (λx_ i_=>[Qb.ty x_,ti i_]) ti:=.mk λ{x_ i_ r} h=>by
 unfold Qg5 at h
 refine Fe func62 ntmps62 λM0 M w0 hpl=>?_
 refine QyV [0,3] ?_
 have⟨t0,_,h⟩:=bs h
 refine Qy5 [v1 5 (λv0=>box (Ql.cs zz3) v0),v1 5 (λv0=>box (Ql.cs t0) v0)] [6,7] [5,6,7] λm0=>?_
 refine Qy9 (λ_ _ H=>((H.Xk 0 rfl).add 0 rfl (λ_ _ _ h=>h.2)).pick [0,3,4]) ?_
 refine QyY λK0 k0=>?_
 refine QyV [0,1,2,3] ?_
 have⟨e0,h0,h⟩:=bs h
 have J0:∀(p0:Unit),(.inl p0)=e0->To M w0 89 [(5,tptr (Ql.cs t0)),(2,tptr (Qb.cs x_))] [] K0:=by
  intro p0 he;subst he;simp only at h;refine k0 ?_;have⟨t1,_,h⟩:=bs h;refine QyV [4,5,6] ?_;refine tIfs h [1,2,3,4] (λ_ h=>?_) (λ_ h=>?_)
  ·refine QyV [0] ?_;exact QyZ h (·▸QyX hpl)
  refine QyV [5,7,8,9] ?_;refine QyV [0,1,2,3,4] ?_;refine QyY λK1 k1=>QyV [0,1,2,3,4,5] ?_;have⟨e1,h1,h⟩:=bs h;have J1:∀(p1:Bool),(.inl p1)=e1->To M w0 89 [(9,tb p1),(5,tptr (Ql.cs t0))] [] K1:=by
   intro p1 he;subst he;simp only at h;refine k1 <|tIfs h [0,2] (λ_ h=>?_) (λ_ h=>?_)
   ·refine QyV [0] ?_;exact QyZ h (·▸QyX hpl)
   refine tIfs h [4] (λ_ h=>?_) (λ_ h=>?_)
   ·refine QyV [0] ?_;exact QyZ h (·▸QyX hpl)
   refine QyV [0] ?_;exact QyZ h (·▸QyX hpl)
  have J2:∀(p2:Int),(.inr p2)=e1->To M w0 89 [(4,ti p2)] [] (Ret prog f62 M0 [] w0 (λ_=>[]) (λ_=>ti r) .ret):=by
   intro p2 he;subst he;simp only at h;obtain rfl:=sj h;exact QyX hpl
  refine Qy1 <|Qzb h1 (λ(s0:Int×Bool)=>[(10,ti s0.1),(9,tb s0.2),(8,tsl rS [t0.A,t0.B]),(7,ti t1),(5,tptr (Ql.cs t0)),(2,tptr (Qb.cs x_))]) (λ(s0:Int×Bool)=>[]) [0,1,2,3,4,5] ?_;clear h;intro s0 o K2 h ho k2;refine QyY λ_ k3=>QyV [1,2,3,4,5,6,7] ?_;refine Qy0 h (λ_ h=>?_) (λ_ h=>?_)
  ·refine Qy2 <|k3 <|QyY λK3 k4=>?_;obtain⟨j107,hj107,h⟩:=Qgt h;have J3:∀(p3:Bool),j107 p3=some o->To M w0 89 [(10,ti s0.1),(9,tb p3),(8,tsl rS [t0.A,t0.B]),(7,ti t1),(5,tptr (Ql.cs t0)),(2,tptr (Qb.cs x_))] [] K3:=by
    intro p3 h;rw[hj107] at h;clear hj107;refine k4 <|Qy6 [2,3,4,5,6,7] ?_;exact Qy4 k2 ((sj h).symm) [0,1,2,3,4,5]
   clear hj107;refine Qy1 ?_;have⟨_,_,h⟩:=bs h;refine tIfs h [4,6,7,8,9,10,11] (λ_ h=>?_) (λ_ h=>?_)
   ·refine Qy7 <|Qy4 J3 h [1,2,3,4,5,6]
   have⟨_,_,_,_,_,_,h⟩:=bs3 h;refine QyV [10,12,13,14,15,16,17] ?_;refine tIfs h [1,2,3,4,5,6,7,8] (λ_ h=>?_) (λ_ h=>?_)
   ·refine QyV [0] ?_;refine Qzd ?_;exact Qy4 J2 (ho _ (sj h).symm) [0]
   have⟨_,_,_,_,h⟩:=bs2 h;refine QyV [10,13,14,15,16,17,18] ?_;refine Qy6 [9,11,12,13,14,15] ?_;exact Qy4 J3 h [1,0,2,3,4,5]
  refine Qy7 <|Qy4 J1 (ho _ (sj h).symm) [2,5]
 have J4:∀(p4:Int),(.inr p4)=e0->To M w0 89 [(4,ti p4)] [] (Ret prog f62 M0 [] w0 (λ_=>[]) (λ_=>ti r) .ret):=by
  intro p4 he;subst he;simp only at h;obtain rfl:=sj h;exact QyX hpl
 refine Qy1 <|Qzb h0 (λ(s1:Int)=>[(6,ti s1),(5,tptr (Ql.cs t0)),(2,tptr (Qb.cs x_)),(1,ti i_)]) (λ(s1:Int)=>[]) [0,1,2,3] ?_;clear h;intro s1 o K4 h ho k5;refine QyY λ_ k6=>QyV [2,3,4,5,6] ?_;refine Qy0 h (λ_ h=>?_) (λ_ h=>?_)
 ·refine Qy2 <|k6 <|QyY λ_ k7=>Qy1 ?_;have⟨_,_,h⟩:=bs h;refine QyV [8,10,11,12,13] ?_;refine Qy0 h (λ_ h=>?_) (λ_ h=>?_)
  ·refine QyV [0] ?_;refine Qzd ?_;exact Qy4 J4 (ho _ (sj h).symm) [0]
  refine Qy2 <|k7 <|Qy6 [2,4,5,6] ?_;exact Qy4 k5 ((sj h).symm) [0,1,2,3]
 refine Qy7 <|Qy4 J0 (ho _ (sj h).symm) [2,3]
def QeA (x_:Qa):Option ((List QP)):=(Qg1 x_).bind λt0=>(if (t0 !=0)=true then (Qcu ([]:List QP) (-1) (-1) (-1) t0).bind λt1=>(some t1) else (Qz (λ(s0:Int×List QP)=>((if (decide (s0.1<(x_.Xd.length:Int)))=true then (Qz (λ(s1:Int)=>((if (decide (s1<s0.1))=true then (idx x_.Xd s1).bind λt2=>(idx x_.Xd s0.1).bind λt3=>(if (t2.Xi==t3.Xi)=true then (Qcu s0.2 (-1) s0.1 (-1) 7).bind λt4=>(some (.inr t4)) else (some (.inl (i64.wrap (s1+1))))) else (some (.inr s0.2))):Option ((Int)⊕((List QP))))) (0:Int)).bind λp0=>(some (.inl ((i64.wrap (s0.1+1)),p0))) else (some (.inr s0.2))):Option ((Int×List QP)⊕((List QP))))) ((0:Int),([]:List QP))).bind λp1=>(Qz (λ(s2:Int×List QP)=>((if (decide (s2.1<(x_.Xa.length:Int)))=true then (idx x_.Xa s2.1).bind λt5=>(idx x_.Xa s2.1).bind λt6=>(Qcp x_ t6.Xi).bind λt7=>((if (decide (t7<s2.1))=true then (Qcu s2.2 s2.1 (-1) (-1) 7).bind λt8=>(some t8) else (Qg2 t5.Xb).bind λt9=>((if (!t9)=true then (Qcu s2.2 s2.1 (-1) (-1) 11).bind λt10=>(some t10) else (some s2.2))).bind λp2=>(some p2))).bind λp3=>(Qz (λ(s3:Int×List QP)=>((if (decide (s3.1<(t5.Xb.length:Int)))=true then (idx x_.Xa s2.1).bind λt11=>(idx t5.Xb s3.1).bind λt12=>(Qcf t11 t12.Xi).bind λt13=>((if (decide (t13<s3.1))=true then (Qcu s3.2 s2.1 s3.1 (-1) 7).bind λt14=>(some t14) else (Qg4 x_ s2.1 s3.1).bind λt15=>(Qcu s3.2 s2.1 s3.1 (-1) t15).bind λt16=>(some t16))).bind λp4=>(some (.inl ((i64.wrap (s3.1+1)),p4))) else (some (.inr s3.2))):Option ((Int×List QP)⊕((List QP))))) ((0:Int),p3)).bind λp5=>(some (.inl ((i64.wrap (s2.1+1)),p5))) else (some (.inr s2.2))):Option ((Int×List QP)⊕((List QP))))) ((0:Int),p1)).bind λp6=>(Qz (λ(s4:Int×List QP)=>((if (decide (s4.1<(x_.Xc.length:Int)))=true then (Qg5 x_ s4.1).bind λt17=>(Qcu s4.2 (-1) (-1) s4.1 t17).bind λt18=>(some (.inl ((i64.wrap (s4.1+1)),t18))) else (some (.inr s4.2))):Option ((Int×List QP)⊕((List QP))))) ((0:Int),p6)).bind λp7=>(some p7))
instance Qlr:Spc1 prog 39 QeA (λx_=>[Qb.ty x_]) (tsl Qai):=.mk λ{x_ r} h=>by
 unfold QeA at h
 refine Fe func39 ntmps39 λM0 M w0 hpl=>?_
 refine QyV [0] ?_
 have⟨_,_,h⟩:=bs h
 refine QyV [2,3] ?_
 refine tIfs h [1,2,3] (λ_ h=>?_) (λ_ h=>?_)
 ·refine Qy9 (λ_ _ H=>H.nil (Qai) 101) ?_
  have⟨t0,_,h⟩:=bs h
  refine Qy5 [v1 1 (λv0=>own Qai 101 t0 v0)] [2] [1,2] λm0=>?_
  refine Qzd ?_
  refine Qzc (by intro _ _ H;exact (H.Xm 1 rfl).pick [0]) ?_
  obtain rfl:=sj h
  exact QyX hpl
 refine QyV [0,3] ?_
 refine Qy9 (λ_ _ H=>H.nil (Qai) 101) ?_
 refine QyY λK0 k0=>?_
 refine QyV [0,1,2] ?_
 have⟨e0,h0,h⟩:=bs h
 have J0:∀(p0:List QP) (y0:Value),p0=e0->To M w0 122 [(4,tv y0),(1,tptr (Qb.cs x_))] [own Qai 101 p0 y0] K0:=by
  intro p0 y0 he;subst he;refine k0 <|QyY λK1 k1=>QyV [0,1,2] ?_;have⟨e1,h1,h⟩:=bs h;have J1:∀(p1:List QP) (y1:Value),p1=e1->To M w0 122 [(4,tv y1),(1,tptr (Qb.cs x_))] [own Qai 101 p1 y1] K1:=by
   intro p1 y1 he;subst he;refine k1 <|QyY λK2 k2=>QyV [0,1,2] ?_;have⟨e2,h2,h⟩:=bs h;have J2:∀(p2:List QP) (y2:Value),p2=e2->To M w0 122 [(4,tv y2)] [own Qai 101 p2 y2] K2:=by
    intro p2 y2 he;subst he;refine k2 <|QyV [0,1,2] ?_;refine Qzd ?_;refine Qzc (by intro _ _ H;exact (H.Xm 1 rfl).pick [0]) ?_;obtain rfl:=sj h;exact QyX hpl
   refine Qy1 <|Qzf h2 (λ(s0:Int×List QP) (y3:Value)=>[(10,ti s0.1),(4,tv y3),(1,tptr (Qb.cs x_))]) (λ(s0:Int×List QP) (y3:Value)=>[own Qai 101 s0.2 y3]) y1 [0,1,2] ?_;clear h;intro s0 y3 o K3 h ho k3;refine QyY λ_ k4=>QyV [4,5,6,7] ?_;refine Qy0 h (λ_ h=>?_) (λ_ h=>?_)
   ·refine Qy2 <|k4 <|QyY λ_ k5=>Qy1 ?_;have⟨_,_,t1,_,h⟩:=bs2 h;refine Qza [v1 5 (λv0=>own Qai 101 t1 v0)] [6] [5,6,8,9] λm1=>?_;refine k5 <|Qy6 [2,3,4,5] ?_;exact Qy8 k3 (m1 5) ((sj h).symm) [0,2,3]
   refine Qy7 <|Qy8 J2 y3 (ho _ (sj h).symm) [2]
  refine Qy1 <|Qzf h1 (λ(s1:Int×List QP) (y4:Value)=>[(7,ti s1.1),(4,tv y4),(1,tptr (Qb.cs x_))]) (λ(s1:Int×List QP) (y4:Value)=>[own Qai 101 s1.2 y4]) y0 [0,1,2] ?_;clear h;intro s1 y4 o K4 h ho k6;refine QyY λ_ k7=>QyV [4,5,6,7] ?_;refine Qy0 h (λ_ h=>?_) (λ_ h=>?_)
  ·refine Qy2 <|k7 <|QyY λK5 k8=>Qy1 ?_;have⟨t2,_,h⟩:=bs h;refine QyV [6,8,9,10] ?_;refine QyY λK6 k9=>?_;have⟨_,_,_,_,h⟩:=bs2 h;refine QyV [9,10,11,12,13] ?_;have⟨p3,h3,h⟩:=bs h;have J3:∀(y5:Value),To M w0 122 [(4,tv y5),(8,tsl Qe t2.Xb),(7,ti s1.1),(1,tptr (Qb.cs x_))] [own Qai 101 p3 y5] K6:=by
    intro y5;refine k9 <|QyV [0,1,2,3,4] ?_;have⟨e3,h4,h⟩:=bs h;have J4:∀(p4:List QP) (y6:Value),p4=e3->To M w0 122 [(4,tv y6),(7,ti s1.1),(1,tptr (Qb.cs x_))] [own Qai 101 p4 y6] K5:=by
     intro p4 y6 he;subst he;refine k8 <|Qy6 [2,3,4] ?_;exact Qy8 k6 y6 ((sj h).symm) [0,1,2]
    refine Qy1 <|Qzf h4 (λ(s2:Int×List QP) (y7:Value)=>[(9,ti s2.1),(4,tv y7),(8,tsl Qe t2.Xb),(7,ti s1.1),(1,tptr (Qb.cs x_))]) (λ(s2:Int×List QP) (y7:Value)=>[own Qai 101 s2.2 y7]) y5 [0,1,2,3,4] ?_;clear h;intro s2 y7 o K7 h ho k10;refine QyY λ_ k11=>QyV [3,4,5,6,7,8] ?_;refine Qy0 h (λ_ h=>?_) (λ_ h=>?_)
    ·refine Qy2 <|k11 <|QyY λK8 k12=>Qy1 ?_;have⟨_,_,_,_,_,_,h⟩:=bs3 h;refine QyV [12,14,15,16,17,18] ?_;have⟨p5,h5,h⟩:=bs h;have J5:∀(y8:Value),To M w0 122 [(4,tv y8),(9,ti s2.1),(8,tsl Qe t2.Xb),(7,ti s1.1),(1,tptr (Qb.cs x_))] [own Qai 101 p5 y8] K8:=by
      intro y8;refine k12 <|Qy6 [2,3,4,5,6] ?_;exact Qy8 k10 y8 ((sj h).symm) [0,1,2,3,4]
     replace h:=h5;clear h5;refine Qy0 h (λ_ h=>?_) (λ_ h=>?_)
     ·have⟨t3,_,h⟩:=bs h;refine Qza [v1 3 (λv0=>own Qai 101 t3 v0)] [4] [3,4,6,7,8,9] λm2=>?_;obtain rfl:=sj h;exact Qy3 (J5 (m2 3)) [1,2,3,4,5]
     have⟨_,_,t4,_,h⟩:=bs2 h;refine Qza [v1 7 (λv0=>own Qai 101 t4 v0)] [8] [7,8,10,11,12,13] λm3=>?_;obtain rfl:=sj h;exact Qy3 (J5 (m3 7)) [1,2,3,4,5]
    refine Qy7 <|Qy8 J4 y7 (ho _ (sj h).symm) [2,4,5]
   replace h:=h3;clear h3;refine Qy0 h (λ_ h=>?_) (λ_ h=>?_)
   ·have⟨t5,_,h⟩:=bs h;refine Qza [v1 2 (λv0=>own Qai 101 t5 v0)] [3] [2,3,5,6,7] λm4=>?_;obtain rfl:=sj h;exact Qy3 (J3 (m4 2)) [1,2,3,4]
   have⟨_,_,h⟩:=bs h;refine QyV [2,4,5,6,7] ?_;have⟨p6,h6,h⟩:=bs h;have J6:∀(y9:Value),To M w0 122 [(4,tv y9),(8,tsl Qe t2.Xb),(7,ti s1.1),(1,tptr (Qb.cs x_))] [own Qai 101 p6 y9] K6:=by
    intro y9;obtain rfl:=sj h;exact Qy3 (J3 y9) [0,1,2,3]
   replace h:=h6;clear h6;refine Qy0 h (λ_ h=>?_) (λ_ h=>?_)
   ·have⟨t6,_,h⟩:=bs h;refine Qza [v1 2 (λv0=>own Qai 101 t6 v0)] [3] [2,3,5,6,7] λm5=>?_;obtain rfl:=sj h;exact Qy3 (J6 (m5 2)) [1,2,3,4]
   refine Qy2 ?_;obtain rfl:=sj h;exact Qy3 (J6 y4) [3,1,2,4]
  refine Qy7 <|Qy8 J1 y4 (ho _ (sj h).symm) [2,3]
 refine Qy1 <|Qzf h0 (λ(s3:Int×List QP) (y10:Value)=>[(5,ti s3.1),(4,tv y10),(1,tptr (Qb.cs x_))]) (λ(s3:Int×List QP) (y10:Value)=>[own Qai 101 s3.2 y10]) (.slice none 0 0) [0,1,2] ?_;clear h;intro s3 y10 o K9 h ho k13;refine QyY λ_ k14=>QyV [4,5,6,7] ?_;refine Qy0 h (λ_ h=>?_) (λ_ h=>?_)
 ·refine Qy2 <|k14 <|QyY λK10 k15=>Qy1 <|QyV [0,2,3,4] ?_;have⟨e4,h7,h⟩:=bs h;have J7:∀(p7:List QP) (y11:Value),p7=e4->To M w0 122 [(4,tv y11),(5,ti s3.1),(1,tptr (Qb.cs x_))] [own Qai 101 p7 y11] K10:=by
   intro p7 y11 he;subst he;refine k15 <|Qy6 [2,3,4] ?_;exact Qy8 k13 y11 ((sj h).symm) [0,1,2]
  refine Qy1 <|Qzb h7 (λ(s4:Int)=>[(6,ti s4),(5,ti s3.1),(4,tv y10),(1,tptr (Qb.cs x_))]) (λ(s4:Int)=>[own Qai 101 s3.2 y10]) [0,1,2,3] ?_;clear h;intro s4 o K11 h ho k16;refine QyY λ_ k17=>QyV [2,3,4,5,6] ?_;refine Qy0 h (λ_ h=>?_) (λ_ h=>?_)
  ·refine Qy2 <|k17 <|QyY λ_ k18=>Qy1 ?_;have⟨_,_,_,_,h⟩:=bs2 h;refine QyV [12,14,15,16,17] ?_;refine Qy0 h (λ_ h=>?_) (λ_ h=>?_)
   ·have⟨t7,_,h⟩:=bs h;refine Qy5 [v1 2 (λv0=>own Qai 101 t7 v0)] [3] [2,3,6,7] λm6=>?_;refine Qy7 <|Qy8 J7 (m6 2) (ho _ (sj h).symm) [1,2,3]
   refine Qy2 <|k18 <|Qy6 [2,4,5,6] ?_;exact Qy4 k16 ((sj h).symm) [0,1,2,3]
  refine Qy7 <|Qy8 J7 y10 (ho _ (sj h).symm) [3,2,4]
 refine Qy7 <|Qy8 J0 y10 (ho _ (sj h).symm) [2,3]
