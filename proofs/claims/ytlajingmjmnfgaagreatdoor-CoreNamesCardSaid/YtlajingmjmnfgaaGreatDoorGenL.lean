/- The walk. No condition. -/
import Derived.Test.YtlajingmjmnfgaaGreatDoorGenK
set_option linter.all false
open Go.Proofs.Tryz Go.IntKind
namespace Go.Proofs.YtlajingmjmnfgaaGreatDoor
noncomputable section
open Go.Sim
set_option maxRecDepth 100000
set_option maxHeartbeats 4000000
def Qgs (n_:Int) (l_:(List QV)):Option ((List Int)×Int):=(Qgq n_ l_).bind λt0=>(if (t0.2 !=0)=true then (some (([]:List Int),t0.2)) else (Qu (λ(s0:Int)=>((if (decide (s0<=(i64.wrap (n_+1))))=true then (Qu (λ(s1:Int)=>((if (decide (s1<(t0.1.length:Int)))=true then (Qgr n_ t0.1 s1 s0).bind λt1=>(if (!t1.isEmpty)=true then (some (.inr (.inr (t1,(0:Int))))) else (some (.inl (i64.wrap (s1+1))))) else (some (.inr (.inl ())))):Option ((Int)⊕((Unit)⊕((List Int)×Int))))) (0:Int)).bind λe0=>(match e0 with | .inl _=>(some (.inl (i64.wrap (s0+1)))) | .inr p0=>(some (.inr (.inr (p0.1,p0.2))))) else (some (.inr (.inl ())))):Option ((Int)⊕((Unit)⊕((List Int)×Int))))) (2:Int)).bind λe1=>(match e1 with | .inl _=>(some (([]:List Int),(6:Int))) | .inr p1=>(some (p1.1,p1.2))))
instance Qxv:Spc2 prog 90 Qgs (λn_ l_=>[ti n_,tsl QaA l_]) (λr=>ttup [tsl rI r.1,ti r.2]):=.mk λ{n_ l_ r} h=>by
 unfold Qgs at h
 refine Fe func90 ntmps90 λM0 M w0 hpl=>?_
 refine Qa [2,3] ?_
 have⟨t0,h0,h⟩:=bs h
 intro a w H
 refine sr mx [] H (λ_=>.q 0 rfl<|.q 2 rfl<|.o (QJ QuJ ((Qol.ok h0).ro QxG) (.cons (.of z1)<|.cons (.of z0)<|.nil))<|.q 0 rfl<|.o (Qam z0 rfl)<|.o (Qam z1 rfl)<|.o (Qp z1)<|.o (Qp z1)<|.n) λ_ a w H=>?_
 have H:=H.t3_0 [6,7,8]
 refine Q8 H ?_
 refine tIfs h [1,2,3,4] (λ_ h=>?_) (λ_ h=>?_)
 ·refine Qa [1,2] ?_
  exact Qo h (·▸Ql hpl)
 refine Qi λK0 k0=>?_
 refine Qa [0,2,4] ?_
 have⟨e0,h1,h⟩:=bs h
 have J0:∀(p0:Unit),(.inl p0)=e0->To M w0 40 [] [] K0:=by
  intro p0 he;subst he;simp only at h;refine k0 <|Qa [0,1] ?_;exact Qo h (·▸Ql hpl)
 have J1:∀(p1:(List Int)×Int),(.inr p1)=e0->To M w0 40 [(4,tsn rI p1.1),(5,ti p1.2)] [] (Ret prog f90 M0 [] w0 (λ_=>[]) (λ_=>ttup [tsl rI r.1,ti r.2]) .ret):=by
  intro p1 he;subst he;simp only at h;obtain rfl:=sj h;exact Ql hpl
 refine Qm <|Qan h1 (λ(s0:Int)=>[(8,ti s0),(6,tsl Q1 t0.1),(0,ti n_)]) (λ(s0:Int)=>[]) [0,1,2] ?_;clear h;intro s0 o K1 h ho k1;refine Qi λ_ k2=>Qa [3,4,5,6] ?_;refine Qq h (λ_ h=>?_) (λ_ h=>?_)
 ·refine Qt <|k2 <|Qi λK2 k3=>Qm <|Qa [1,2,4,5,6] ?_;have⟨e1,h2,h⟩:=bs h;have J2:∀(p2:Unit),(.inl p2)=e1->To M w0 40 [(8,ti s0),(6,tsl Q1 t0.1),(0,ti n_)] [] K2:=by
   intro p2 he;subst he;simp only at h;refine k3 <|QL [2,3,4] ?_;exact Qz k1 ((sj h).symm) [0,1,2]
  have J3:∀(p3:(List Int)×Int),(.inr p3)=e1->To M w0 40 [(4,tsn rI p3.1),(5,ti p3.2)] [] (Ret prog f90 M0 [] w0 (λ_=>[]) (λ_=>ttup [tsl rI r.1,ti r.2]) .ret):=by
   intro p3 he;subst he;simp only at h;exact Qz J1 (ho _ (sj h).symm) [0,1]
  refine Qm <|Qan h2 (λ(s1:Int)=>[(27,ti (t0.1.length:Int)),(28,ti s1),(8,ti s0),(6,tsl Q1 t0.1),(0,ti n_)]) (λ(s1:Int)=>[]) [0,1,2,3,4] ?_;clear h;intro s1 o K3 h ho k4;refine Qa [0,1,2,3,4,5] ?_;refine Qi λ_ k5=>Qq h (λ_ h=>?_) (λ_ h=>?_)
  ·refine Qt <|k5 <|Qi λ_ k6=>Qm <|Qa [1,3,4,5,6,7] ?_;have⟨_,_,h⟩:=bs h;refine Qa [5,7,8,9,10,11] ?_;refine Qa [1,2,3,4,5,6,7] ?_;refine Qq h (λ_ h=>?_) (λ_ h=>?_)
   ·refine Qa [1,2] ?_;refine Qap ?_;exact Qz J3 (ho _ (sj h).symm) [0,1]
   refine Qt <|k6 <|QL [1,4,5,6,7] ?_;exact Qz k4 ((sj h).symm) [1,0,2,3,4]
  refine QP <|Qz J2 (ho _ (sj h).symm) [3,4,5]
 refine QP <|Qz J0 (ho _ (sj h).symm) []
def Qdr (s_:Qau) (kind_:Int) (some_:(Int->Option Bool)):Option ((List Int)):=(Qu (λ(s0:Int×List Int×List QV)=>((if (decide (s0.1<(s_.Xt.length:Int)))=true then (idx s_.Xt s0.1).bind λt0=>(opt ((t0.kind==kind_)==true) (some_ s0.1) default).bind λt1=>((if ((t0.kind==kind_)&&t1)=true then (rm (s0.2.2.length+[t0.Xu].length)).bind λ_=>(rm (s0.2.1.length+[s0.1].length)).bind λ_=>(some ((s0.2.2++[t0.Xu]),(s0.2.1++[s0.1]))) else (some (s0.2.2,s0.2.1)))).bind λp0=>(some (.inl ((i64.wrap (s0.1+1)),p0.2,p0.1))) else (some (.inr (s0.2.1,s0.2.2)))):Option ((Int×List Int×List QV)⊕((List Int×List QV))))) ((0:Int),([]:List Int),([]:List QV))).bind λp1=>(idx (s_.x).Xa kind_).bind λt2=>(Qgs (t2.Xb.length:Int) p1.2).bind λt3=>(if (t3.2 !=0)=true then (some ([]:List Int)) else (Qu (λ(s1:Int×List Int)=>((if (decide (s1.1<(t3.1.length:Int)))=true then (idx t3.1 s1.1).bind λt4=>(idx p1.1 t4).bind λt5=>(rm (s1.2.length+[t5].length)).bind λ_=>(some (.inl ((i64.wrap (s1.1+1)),(s1.2++[t5])))) else (some (.inr s1.2))):Option ((Int×List Int)⊕((List Int))))) ((0:Int),([]:List Int))).bind λp2=>(ne p2).bind λ_=>(some p2))
instance Qmd:Spc3 prog 30 Qdr (λs_ kind_ some_=>[tptr (QS.cs s_),ti kind_,rF81.ty some_]) (tsn rI):=.mk λ{s_ kind_ some_ r} h=>by
 unfold Qdr at h
 refine Fe func30 ntmps30 λM0 M w0 hpl=>?_
 intro a w H
 refine sr mx [] H (λ_=>.o (Qp (.nilsn (R:=rI)))<|.n) λ_ a w H=>?_
 have H:=H.t3_0 [1,2,3]
 refine Q8 H ?_
 refine Qa [0,1,2,3] ?_
 refine QN (λ_ _ H=>H.nil (QaA) 67) ?_
 refine Qa [0,1,2,3,4] ?_
 refine QN (λ_ _ H=>H.nil (rI) 3) ?_
 refine Qi λK0 k0=>?_
 refine Qa [3,4,5,6,7,8,9,10] ?_
 have⟨e0,h0,h⟩:=bs h
 have J0:∀(p0:List Int×List QV) (y0:Value) (y1:Value),p0=e0->To M w0 77 [(8,tv y0),(7,tv y1),(0,tptr (QS.cs s_)),(1,ti kind_)] [own rI 3 p0.1 y0,own QaA 67 p0.2 y1] K0:=by
  intro p0 y0 y1 he;subst he;refine k0 <|QN (by intro _ _ H;exact ((H.Xk [1,0] rfl).Xn 1 rfl).pick [0,1,3,4]) ?_;have⟨_,_,t0,_,h⟩:=bs2 h;refine Qa [15,16,18] ?_;refine tIfs h [1,2,4] (λ_ h=>?_) (λ_ h=>?_)
  ·intro a w H;refine sr mx [] H (λ_=>.o (Qp (.nilsn (R:=rI)))<|.n) λ_ a w H=>?_;have H:=H.t2_1 [0,3];refine Q8 H ?_;exact Qo h (·▸Ql hpl)
  refine Qa [0,2,3] ?_;refine QN (λ_ _ H=>H.nil (rI) 3) ?_;refine Qi λK1 k1=>Qa [0,1,2,3,5] ?_;have⟨e1,h1,h⟩:=bs h;have J1:∀(p1:List Int) (y2:Value),p1=e1->To M w0 77 [(13,tv y2)] [own rI 3 p1 y2] K1:=by
   intro p1 y2 he;subst he;refine k1 <|Qa [0,1,2] ?_;refine Qap ?_;have⟨_,hne,h⟩:=bs h;refine Qae (by intro _ _ H;exact (H.Xn 1 rfl).pick [0]) ?_;obtain rfl:=sj h;exact oEndR hpl (.tmp (.sn z0 (ne_ok hne)) .nil)
  refine Qm <|QaJ h1 (λ(s0:Int×List Int) (y3:Value)=>[(62,tsl rI t0.1),(63,ti (t0.1.length:Int)),(64,ti s0.1),(13,tv y3),(8,tv y0)]) (λ(s0:Int×List Int) (y3:Value)=>[own rI 3 s0.2 y3,own rI 3 p0.1 y0]) (.slice none 0 0) [0,1,2,3,4] ?_;clear h;intro s0 y3 o K2 h ho k2;refine Qa [0,1,2,3,4,5] ?_;refine Qi λ_ k3=>Qq h (λ_ h=>?_) (λ_ h=>?_)
  ·refine Qt <|k3 <|Qi λ_ k4=>Qm ?_;have⟨_,_,h⟩:=bs h;refine Qa [2,4,5,6,7,8] ?_;have⟨t1,_,_,_,h⟩:=bs2 h;refine Qah [v1 6 (λv0=>own rI 3 (s0.2++[t1]) v0)] [7] [1,6,7,9,10,11,12] λm0=>?_;refine k4 <|QL [1,2,3,4,5,6,7] ?_;refine Qae (λ_ _ H=>(H.pick [4,5,0,3,6]).Xk [1,0] rfl) ?_;exact QX k2 (m0 6) ((sj h).symm) [0,1,2,3,4]
  refine QP <|Qae (λ_ _ H=>(H.pick [4]).Xk [0] rfl) ?_;exact QX J1 y3 (ho _ (sj h).symm) [0]
 refine Qm <|Qld h0 (λ(s1:Int×List Int×List QV) (y4:Value) (y5:Value)=>[(19,tsl QU s_.Xt),(20,ti (s_.Xt.length:Int)),(21,ti s1.1),(8,tv y4),(7,tv y5),(0,tptr (QS.cs s_)),(1,ti kind_),(2,rF81.ty some_)]) (λ(s1:Int×List Int×List QV) (y4:Value) (y5:Value)=>[own rI 3 s1.2.1 y4,own QaA 67 s1.2.2 y5]) (.slice none 0 0) (.slice none 0 0) [0,1,2,3,4,5,6,7] ?_;clear h;intro s1 y4 y5 o K3 h ho k5;refine Qa [0,1,2,3,4,5,6,7,8] ?_;refine Qi λ_ k6=>Qq h (λ_ h=>?_) (λ_ h=>?_)
 ·refine Qt <|k6 <|Qi λK4 k7=>Qm ?_;have⟨t2,_,h⟩:=bs h;refine QB [v1 3 (λv0=>box (QU.cs (QE.mk (0:Int) ([]:Str) (QV.mk (0:Int) (0:Int) (0:Int)))) v0),v1 3 (λv0=>box (QU.cs t2) v0)] [4,6] [3,4,6,7,8,9,10,11,12,13] λm1=>?_;refine QN (λ_ _ H=>(((H.Xk [2,0,1] rfl).Xl 0 rfl).add 0 rfl (λ_ _ _ h=>h.2)).pick [0,3,4,5,6,7,8,9,10,11]) ?_;have⟨_,_,h⟩:=bs h;refine Qa [8,9,10,11,12,13,14,15,16,17,18] ?_;have⟨p2,h2,h⟩:=bs h;have J2:∀(y6:Value) (y7:Value),To M w0 77 [(7,tv y6),(8,tv y7),(19,tsl QU s_.Xt),(20,ti (s_.Xt.length:Int)),(21,ti s1.1),(0,tptr (QS.cs s_)),(1,ti kind_),(2,rF81.ty some_)] [own QaA 67 p2.1 y6,own rI 3 p2.2 y7] K4:=by
   intro y6 y7;refine k7 <|QL [1,2,3,4,5,6,7,8] ?_;refine Qae (λ_ _ H=>(H.pick [3,4,0,2,1,5,6,7]).Xk [1,0] rfl) ?_;exact Qgh k5 y7 y6 ((sj h).symm) [0,1,2,3,4,5,6,7]
  replace h:=h2;clear h2;refine Qq h (λ_ h=>?_) (λ_ h=>?_)
  ·have⟨_,_,_,_,h⟩:=bs2 h;refine Qah [v1 4 (λv0=>own QaA 67 (s1.2.2++[t2.Xu]) v0),v1 8 (λv0=>own rI 3 (s1.2.1++[s1.1]) v0)] [5,9] [4,8,9,10,14,15,16,17,18,19] λm2=>?_;obtain rfl:=sj h;exact QI (J2 (m2 4) (m2 8)) [2,3,4,5,6,7,8,9]
  refine Qt ?_;obtain rfl:=sj h;refine Qae (λ_ _ H=>(H.pick [7,6,3,4,5,8,9,10]).Xk [1,0] rfl) ?_;exact QI (J2 y5 y4) [0,1,2,3,4,5,6,7]
 refine QP <|Qgh J0 y4 y5 (ho _ (sj h).symm) [4,5,6,7]
def Qh0 (x0_:Int):Option (Bool):=(some true)
instance Qno:Spc1 prog 31 Qh0 (λx0_=>[ti x0_]) tb:=.mk λ{x0_ r} h=>by
 unfold Qh0 at h
 refine fe func31 ntmps31 λM0 M w0 a hpl H=>?_
 refine sr mx [] H (λ_=>.o (Qp .k)<|.n) λ_ a w H=>?_
 have H:=H.to [] [] [] rfl rfl
 refine sr mx [] H (λ_=>.o (Qp .k)<|.n) λ_ a w H=>?_
 have H:=H.t1_0 [0]
 exact r0 h (·▸r1 hpl H (.tmp z0 .nil))
def Qhy (k_:Int) (c0_:(List (List Int))):Option (Bool):=(idx c0_ k_).bind λt0=>(some (!t0.isEmpty))
instance QpO:Spc2 prog 33 Qhy (λk_ c0_=>[ti k_,tptr ((rSl (rSn rI)).cs c0_)]) tb:=.mk λ{k_ c0_ r} h=>by
 unfold Qhy at h
 refine fe func33 ntmps33 λM0 M w0 a hpl H=>?_
 refine sr mx [] H (λ_=>.o (Qp .k)<|.n) λ_ a w H=>?_
 have H:=H.t2_0 [1,2]
 have⟨t0,h0,h⟩:=bs h
 refine sr mx [] H (λ_=>.o (Q9 tokN68 z1)<|.q 1 rfl<|.o (QcL ud68 Qif z1 z0 h0)<|.o (Q9 Qif z0)<|.o (Qpg ud22 z0)<|.o (Qp z0)<|.n) λ_ a w H=>?_
 have H:=H.t1_0 [5]
 exact r0 h (·▸r1 hpl H (.tmp z0 .nil))
def QbW (k_:Int) (n_:Int) (c0_:(List Int)) (c1_:Bool):Option ((List Int)×Bool):=(idx c0_ k_).bind λt0=>((if (decide (n_>t0))=true then (setAt c0_ k_ n_).bind λt1=>(some (t1,true)) else (some (c0_,c1_)))).bind λp0=>(some (p0.1,p0.2))
instance QgX:SpcS prog 91 (∀{q2:Value} {vh2:Value} {q3:Value} {k_:Int} {n_:Int} {c0_:(List Int)} {c1_:Bool} {r:(List Int)×Bool},QbW k_ n_ c0_ c1_=some r->FnOk prog 91 [ti k_,ti n_,tv q2,tv q3] [box (rVal.cs vh2) q2,own rI 3 c0_ vh2,box (Qaq.cs c1_) q3] (λ_=>[box (rVal.cs vh2) q2,own rI 3 r.1 vh2,box (Qaq.cs r.2) q3]) (λ_=>ttup [])):=.mk λ{q2 vh2 q3 k_ n_ c0_ c1_ r} h=>by
 unfold QbW at h
 refine Fe func91 ntmps91 λM0 M w0 hpl=>?_
 have⟨_,_,h⟩:=bs h
 refine Qa [1,5,6,7,8,9] ?_
 have⟨p0,h0,h⟩:=bs h
 have J0:To M w0 16 [(2,tv q2),(3,tv q3)] [box (rVal.cs vh2) q2,own rI 3 p0.1 vh2,box (Qaq.cs p0.2) q3] (Ret prog f91 M0 [box (rVal.cs vh2) q2,own rI 3 c0_ vh2,box (Qaq.cs c1_) q3] w0 (λ_=>[box (rVal.cs vh2) q2,own rI 3 r.1 vh2,box (Qaq.cs r.2) q3]) (λ_=>ttup []) .normal):=by
  obtain rfl:=sj h;exact Qs2 undef [0,1,2] hpl
 replace h:=h0;clear h0;refine Qhs 1 (λb0=>?_) (λb0=>?_)
 ·replace h:=QdJ b0 h;have⟨t0,_,h⟩:=bs h;refine Qah [v0 (own rI 3 t0 vh2),v0 (box (Qaq.cs true) q3)] [5,6] [0,4,8,9] λm0=>?_;obtain rfl:=sj h;exact QI J0 [2,3]
 replace h:=QdK b0 h;refine Qt ?_;obtain rfl:=sj h;exact QI J0 [4,5]
def Qhz (l_:Qx) (low_:(List Int)):Option (Int×Int×Bool):=((if (decide (l_.B>=0))=true then (idx low_ l_.B).bind λt0=>(some t0) else (some (1:Int)))).bind λp0=>(if l_.Xh=true then (some (l_.A,(i64.wrap (l_.Mul * p0)),true)) else (if ((decide (l_.B<0))||(l_.Mul==0))=true then (idx low_ l_.A).bind λt1=>(some (l_.A,(0:Int),(decide (t1<=l_.Mul)))) else (idx low_ l_.A).bind λt2=>(nz l_.Mul).bind λ_=>(some (l_.B,(i64.wrap (Int.tdiv (i64.wrap ((i64.wrap (t2+l_.Mul)) - 1)) l_.Mul)),true))))
instance QpP:Spc2 prog 92 Qhz (λl_ low_=>[QM.ty l_,tsl rI low_]) (λr=>ttup [ti r.1,ti r.2.1,tb r.2.2]):=.mk λ{l_ low_ r} h=>by
 unfold Qhz at h
 refine Fe func92 ntmps92 λM0 M w0 hpl=>?_
 refine Qa [0,5] ?_
 refine Qa [0,1,2] ?_
 refine Qi λK0 k0=>?_
 refine Qa [2,3,4,5] ?_
 have⟨p0,h0,h⟩:=bs h
 have J0:To M w0 58 [(7,ti p0),(2,tptr (QM.cs l_)),(1,tsl rI low_)] [] K0:=by
  refine k0 <|Qi λ_ k1=>Qm <|Qa [2,3,4,5] ?_;refine Qq h (λ_ h=>?_) (λ_ h=>?_)
  ·refine Qa [6,7,8] ?_;exact Qo h (·▸Ql hpl)
  refine Qa [8,11,12] ?_;refine Qq h (λ_ h=>?_) (λ_ h=>?_)
  ·have⟨_,_,h⟩:=bs h;refine Qa [10,11,12] ?_;exact Qo h (·▸Ql hpl)
  refine Qt <|k1 ?_;have⟨_,_,_,_,h⟩:=bs2 h;refine Qa [14,15,16] ?_;exact Qo h (·▸Ql hpl)
 replace h:=h0;clear h0;refine Qq h (λ_ h=>?_) (λ_ h=>?_)
 ·have⟨_,_,h⟩:=bs h;refine QL [5,7,8] ?_;obtain rfl:=sj h;exact QI J0 [0,1,2]
 refine Qt ?_;obtain rfl:=sj h;exact QI J0 [1,2,3]
def QbS (s_:Qau) (limits_:(Int->Option Bool)) (empty_:(Int->Option Bool)):Option (Bool):=(mk ((s_.x).Xa.length:Int) (0:Int)).bind λt0=>(Qu (λ(s0:List Int)=>((Qu (λ(s1:Int×List Int×Bool)=>((if (decide (s1.1<(s_.Xo.length:Int)))=true then (jn (λ(p0:List Int×Bool)=>(some (.inl ((i64.wrap (s1.1+1)),p0.1,p0.2)))) λj420=>(idx s_.Xo s1.1).bind λt1=>(limits_ s1.1).bind λt2=>(if (!t2)=true then (j420 (s1.2.1,s1.2.2)) else (Qhz t1 s1.2.1).bind λt3=>(if (!t3.2.2)=true then (some (.inr (.inr false))) else (QbW t3.1 t3.2.1 s1.2.1 s1.2.2).bind λt4=>(j420 (t4.1,t4.2))))) else (some (.inr (.inl (s1.2.1,s1.2.2))))):Option ((Int×List Int×Bool)⊕((List Int×Bool)⊕(Bool))))) ((0:Int),s0,false)).bind λe0=>(match e0 with | .inl p1=>(Qu (λ(s2:Int×List Int×Bool)=>((if (decide (s2.1<(s_.refs.length:Int)))=true then (idx s_.refs s2.1).bind λt5=>(idx s2.2.1 t5.a0).bind λt6=>(QbW t5.a1 (imin 1 t6) s2.2.1 s2.2.2).bind λt7=>(some (.inl ((i64.wrap (s2.1+1)),t7.1,t7.2))) else (some (.inr (s2.2.1,s2.2.2)))):Option ((Int×List Int×Bool)⊕((List Int×Bool))))) ((0:Int),p1.1,p1.2)).bind λp2=>(Qu (λ(s3:Int)=>((if (decide (s3<(p2.1.length:Int)))=true then (idx p2.1 s3).bind λt8=>(opt (((decide (t8>65536))==false)&&((decide (t8>0))==true)) (empty_ s3) default).bind λt9=>(if ((decide (t8>65536))||((decide (t8>0))&&t9))=true then (some (.inr (.inr false))) else (some (.inl (i64.wrap (s3+1))))) else (some (.inr (.inl ())))):Option ((Int)⊕((Unit)⊕(Bool))))) (0:Int)).bind λe1=>(match e1 with | .inl _=>(if (!p2.2)=true then (some (.inr (.inl ()))) else (some (.inl p2.1))) | .inr p3=>(some (.inr (.inr p3)))) | .inr p4=>(some (.inr (.inr p4)))):Option ((List Int)⊕((Unit)⊕(Bool))))) t0).bind λe2=>(match e2 with | .inl _=>(some true) | .inr p5=>(some p5))
instance QhA:Spc3 prog 32 QbS (λs_ limits_ empty_=>[tptr (QS.cs s_),rF81.ty limits_,rF81.ty empty_]) tb:=.mk λ{s_ limits_ empty_ r} h=>by
 unfold QbS at h
 refine Fe func32 ntmps32 λM0 M w0 hpl=>?_
 refine Qa [1,2,3] ?_
 refine QuR ?_
 have⟨t0,h0,h⟩:=bs h
 intro a w H
 refine sr mx [v1 6 (λv0=>own rI 3 t0 v0),v1 7 (λv0=>box (rVal.cs nilV) v0),v2 6 7 (λv0 v1=>box (rVal.cs v0) v1)] H (λ_=>.q 0 rfl<|.o (Qj1 z0)<|.o (Q4 QrY z0)<|.o (Q4 QcU z0)<|.o (Q2 (u:=(s_.x).Xa) QlE z0 rfl)<|.o (Qgd ud29 z0)<|.m [] [0] rfl rfl rfl (Qkb (R:=rI) ud22 tok3 zok3 (leb rfl) z0 z0 h0)<|.m [] [1] rfl rfl rfl (QfM QbB)<|.e [0] [1] [2] rfl rfl rfl rfl (QdL (R:=rI) (e:=3) (Ts:=(rVal.cs nilV)) QbB z0 z1 (leb rfl))<|.n) λm0 a w H=>?_
 have H:=H.to [6,7,8,9,10] [_,_,_,_,_] [_,_] rfl rfl
 refine Q8 H ?_
 refine Qi λ_ k0=>?_
 refine QuS ?_
 refine k0 ?_
 refine Qi λK0 k1=>?_
 have⟨e0,h1,h⟩:=bs h
 have J0:∀(p0:Unit),(.inl p0)=e0->To M w0 96 [] [] K0:=by
  intro p0 he;subst he;simp only at h;refine k1 <|Qa [0] ?_;exact Qo h (·▸Ql hpl)
 have J1:∀(p1:Bool),(.inr p1)=e0->To M w0 96 [(6,tb p1)] [] (Ret prog f32 M0 [] w0 (λ_=>[]) (λ_=>tb r) .ret):=by
  intro p1 he;subst he;simp only at h;obtain rfl:=sj h;exact Ql hpl
 refine Qm <|Qan h1 (λ(s0:List Int)=>[(7,tv (m0 7)),(0,tptr (QS.cs s_)),(1,rF81.ty limits_),(2,rF81.ty empty_)]) (λ(s0:List Int)=>[own rI 3 s0 (m0 6),box (rVal.cs (m0 6)) (m0 7)]) [1,2,3,4] ?_;clear h;intro s0 o K1 h ho k2;refine Qm <|QB [v1 0 (λv0=>box (Qaq.cs false) v0),v1 0 (λv0=>box (Qaq.cs false) v0)] [1,2] [0,1,2,3,4] λm1=>?_;refine Qa [1,2,3,4,5,6] ?_;refine Qi λK2 k3=>Qa [3,4,5,6,7,8,9,10,11] ?_;have⟨e1,h2,h⟩:=bs h;have J2:∀(p2:List Int×Bool),(.inl p2)=e1->To M w0 96 [(9,QaN 91 [tv (m0 7),tv (m1 0)]),(8,tv (m1 0)),(7,tv (m0 7)),(0,tptr (QS.cs s_)),(1,rF81.ty limits_),(2,rF81.ty empty_)] [own rI 3 p2.1 (m0 6),box (rVal.cs (m0 6)) (m0 7),box (Qaq.cs p2.2) (m1 0)] K2:=by
  intro p2 he;subst he;simp only at h;refine k3 <|Qi λK3 k4=>Qa [3,4,5,6,7,8,9,10,11] ?_;have⟨e2,h3,h⟩:=bs h;have J3:∀(p3:List Int×Bool),p3=e2->To M w0 96 [(8,tv (m1 0)),(7,tv (m0 7)),(0,tptr (QS.cs s_)),(1,rF81.ty limits_),(2,rF81.ty empty_)] [own rI 3 p3.1 (m0 6),box (rVal.cs (m0 6)) (m0 7),box (Qaq.cs p3.2) (m1 0)] K3:=by
   intro p3 he;subst he;refine k4 <|Qi λK4 k5=>Qa [0,1,2,3,4,5,6,7] ?_;have⟨e3,h4,h⟩:=bs h;have J4:∀(p4:Unit),(.inl p4)=e3->To M w0 96 [(8,tv (m1 0)),(7,tv (m0 7)),(0,tptr (QS.cs s_)),(1,rF81.ty limits_),(2,rF81.ty empty_)] [own rI 3 p3.1 (m0 6),box (rVal.cs (m0 6)) (m0 7),box (Qaq.cs p3.2) (m1 0)] K4:=by
    intro p4 he;subst he;simp only at h;refine k5 <|Qa [1,3,4,5,6] ?_;refine QN (λ_ _ H=>H.Xk [0,1] rfl) ?_;refine Qq h (λ_ h=>?_) (λ_ h=>?_)
    ·refine QP <|Qae (λ_ _ H=>(H.pick []).Xk [] rfl) ?_;exact Qz J0 (ho _ (sj h).symm) []
    refine Qt <|Qz k2 ((sj h).symm) [1,2,3,4]
   have J5:∀(p5:Bool),(.inr p5)=e3->To M w0 96 [(6,tb p5)] [] (Ret prog f32 M0 [] w0 (λ_=>[]) (λ_=>tb r) .ret):=by
    intro p5 he;subst he;simp only at h;exact Qz J1 (ho _ (sj h).symm) [0]
   refine Qm <|Qan h4 (λ(s1:Int)=>[(75,tv (m0 6)),(76,ti (p3.1.length:Int)),(77,ti s1),(8,tv (m1 0)),(7,tv (m0 7)),(0,tptr (QS.cs s_)),(1,rF81.ty limits_),(2,rF81.ty empty_)]) (λ(s1:Int)=>[own rI 3 p3.1 (m0 6),box (rVal.cs (m0 6)) (m0 7),box (Qaq.cs p3.2) (m1 0)]) [0,1,2,3,4,5,6,7] ?_;clear h;intro s1 o K5 h ho k6;refine Qa [0,1,2,3,4,5,6,7,8] ?_;refine Qi λ_ k7=>Qq h (λ_ h=>?_) (λ_ h=>?_)
   ·refine Qt <|k7 <|Qi λ_ k8=>Qm ?_;have⟨_,_,h⟩:=bs h;refine Qa [3,4,6,7,8,9,10,11,12,13] ?_;have⟨_,_,h⟩:=bs h;refine Qa [10,13,14,15,16,17,18,19,20] ?_;refine Qq h (λ_ h=>?_) (λ_ h=>?_)
    ·refine Qa [0,2] ?_;refine QN (λ_ _ H=>H.Xk [0] rfl) ?_;refine Qap ?_;refine Qae (λ_ _ H=>(H.pick [0]).Xk [] rfl) ?_;exact Qz J5 (ho _ (sj h).symm) [0]
    refine Qt <|k8 <|QL [1,3,4,5,6,7,8,9] ?_;exact Qz k6 ((sj h).symm) [1,2,0,3,4,5,6,7]
   refine QP <|Qz J4 (ho _ (sj h).symm) [4,5,6,7,8]
  refine Qm <|Qan h3 (λ(s2:Int×List Int×Bool)=>[(58,tsl Qai s_.refs),(59,ti (s_.refs.length:Int)),(60,ti s2.1),(9,QaN 91 [tv (m0 7),tv (m1 0)]),(8,tv (m1 0)),(7,tv (m0 7)),(0,tptr (QS.cs s_)),(1,rF81.ty limits_),(2,rF81.ty empty_)]) (λ(s2:Int×List Int×Bool)=>[own rI 3 s2.2.1 (m0 6),box (rVal.cs (m0 6)) (m0 7),box (Qaq.cs s2.2.2) (m1 0)]) [0,1,2,3,4,5,6,7,8] ?_;clear h;intro s2 o K6 h ho k9;refine Qa [0,1,2,3,4,5,6,7,8,9] ?_;refine Qi λ_ k10=>Qq h (λ_ h=>?_) (λ_ h=>?_)
  ·refine Qt <|k10 <|Qi λ_ k11=>Qm ?_;have⟨t1,_,h⟩:=bs h;refine QB [v1 2 (λv0=>box (Qai.cs (QF.mk (0:Int) (0:Int))) v0),v1 2 (λv0=>box (Qai.cs t1) v0)] [3,4] [2,4,5,6,7,8,9,10,11,12] λm2=>?_;refine QN (λ_ _ H=>(((H.Xk [3,0,1,2] rfl).Xl 0 rfl).add 0 rfl (λ_ _ _ h=>h.2)).pick [0,3,4,5,6,7,8,9,10,11]) ?_;have⟨_,h5,t2,h6,h⟩:=bs2 h;intro a w H;refine wr mx [v0 (box (rVal.cs (m0 6)) (m0 7)),v0 (own rI 3 t2.1 (m0 6)),v0 (box (Qaq.cs t2.2) (m1 0))] H (λ_=>.q 4 rfl<|.o (Qk4 1 rfl Qp4 tok3 z1 .k (by decide))<|.o (Q2 (u:=t1.a1) tok3 z0 rfl)<|.u [1] rfl rfl (Qbm QbB z9)<|.o (Qk4 0 rfl Qp4 tok3 z4 .k (by decide))<|.o (Q2 (u:=t1.a0) tok3 z0 rfl)<|.u [0] rfl rfl (QaM ud22 tok3 z2 z0 h5)<|.u [0] rfl rfl (Qea tok3 z0 h5)<|.o (QtJ .k z0)<|.e [] [1,0,2] [3,4,5] rfl rfl rfl rfl (QeI QqN (QgX.ok h6) z8 (.cons (.of z6)<|.cons (.of z0)<|.nil))<|.n) λ_ a w H=>?_;have H:=H.to [3,11,12,13,14,15,16,17,18,19] [_,_,_,_,_,_,_,_,_,_] [_,_,_] rfl rfl;refine Qcz H ?_;refine k11 <|QL [1,2,3,4,5,6,7,8,9,10] ?_;refine Qae (λ_ _ H=>(H.pick [2,3,0,4,5,6,7,8,9]).Xk [1,0,2] rfl) ?_;exact Qz k9 ((sj h).symm) [0,1,2,3,4,5,6,7,8]
  refine QP <|Qz J3 (ho _ (sj h).symm) [5,6,7,8,9]
 have J6:∀(p6:Bool),(.inr p6)=e1->To M w0 96 [(6,tb p6)] [] (Ret prog f32 M0 [] w0 (λ_=>[]) (λ_=>tb r) .ret):=by
  intro p6 he;subst he;simp only at h;exact Qz J1 (ho _ (sj h).symm) [0]
 refine Qm <|Qan h2 (λ(s3:Int×List Int×Bool)=>[(30,tsl QM s_.Xo),(31,ti (s_.Xo.length:Int)),(32,ti s3.1),(9,QaN 91 [tv (m0 7),tv (m1 0)]),(8,tv (m1 0)),(7,tv (m0 7)),(0,tptr (QS.cs s_)),(1,rF81.ty limits_),(2,rF81.ty empty_)]) (λ(s3:Int×List Int×Bool)=>[own rI 3 s3.2.1 (m0 6),box (rVal.cs (m0 6)) (m0 7),box (Qaq.cs s3.2.2) (m1 0)]) [0,1,2,3,4,5,6,7,8] ?_;clear h;intro s3 o K7 h ho k12;refine Qa [0,1,2,3,4,5,6,7,8,9] ?_;refine Qi λ_ k13=>Qq h (λ_ h=>?_) (λ_ h=>?_)
 ·refine Qt <|k13 <|Qi λK8 k14=>?_;obtain⟨j420,hj420,h⟩:=Qk1 h;have J7:∀(p7:List Int×Bool),j420 p7=some o->To M w0 96 [(30,tsl QM s_.Xo),(31,ti (s_.Xo.length:Int)),(32,ti s3.1),(9,QaN 91 [tv (m0 7),tv (m1 0)]),(8,tv (m1 0)),(7,tv (m0 7)),(0,tptr (QS.cs s_)),(1,rF81.ty limits_),(2,rF81.ty empty_)] [own rI 3 p7.1 (m0 6),box (rVal.cs (m0 6)) (m0 7),box (Qaq.cs p7.2) (m1 0)] K8:=by
   intro p7 h;rw[hj420] at h;clear hj420;refine k14 <|QL [1,2,3,4,5,6,7,8,9] ?_;exact Qz k12 ((sj h).symm) [1,2,0,3,4,5,6,7,8]
  clear hj420;refine Qm ?_;have⟨t3,_,h⟩:=bs h;refine QB [v1 3 (λv0=>box (QM.cs (Qx.mk (0:Int) (0:Int) (0:Int) false)) v0),v1 3 (λv0=>box (QM.cs t3) v0)] [4,6] [3,4,6,7,8,9,10,11,12,13,14] λm3=>?_;refine QN (λ_ _ H=>(((H.Xk [3,0,1,2] rfl).Xl 0 rfl).add 0 rfl (λ_ _ _ h=>h.2)).pick [0,3,4,5,6,7,8,9,10,11,12]) ?_;have⟨_,_,h⟩:=bs h;refine tIfs h [3,4,6,7,8,9,10,11,12,13,14] (λ_ h=>?_) (λ_ h=>?_)
  ·refine QP <|Qz J7 h [2,3,4,5,6,7,8,9,10]
  have⟨t4,h7,h⟩:=bs h;intro a w H;refine sr mx [] H (λ_=>.o (Q9 Qqz z1)<|.u [1] rfl rfl (Qbm QbB z8)<|.u [0] rfl rfl (QfL [own rI 3 s3.2.1 (m0 6)] QuL (QpP.ok h7) (.cons (.of z1)<|.cons (.own z0 (.head _))<|.nil) (λ_=>(QvN (Qmo Qd1 (Qmo Qd1 (Qmo Qd1 QvO))))) (λ_=>Qib (x:=undef)))<|.q 0 rfl<|.o (Qam z0 rfl)<|.o (Qam z1 rfl)<|.o (Qam z2 rfl)<|.o (Qp z2)<|.o (Qp z2)<|.o (Qp z2)<|.n) λ_ a w H=>?_;have H:=H.to [1,7,8,9,12,13,14,15,16,17,18,19,20] [_,_,_,_,_,_,_,_,_,_,_,_,_] [_,_,_] rfl rfl;refine Q8 H ?_;refine tIfs h [1,2,3,4,6,7,8,9,10,11,12,13,14] (λ_ h=>?_) (λ_ h=>?_)
  ·refine Qa [0,2] ?_;refine QN (λ_ _ H=>H.Xk [0] rfl) ?_;refine Qap ?_;refine Qae (λ_ _ H=>(H.pick [0]).Xk [] rfl) ?_;exact Qz J6 (ho _ (sj h).symm) [0]
  have⟨t5,h8,h⟩:=bs h;intro a w H;refine wr mx [v0 (box (rVal.cs (m0 6)) (m0 7)),v0 (own rI 3 t5.1 (m0 6)),v0 (box (Qaq.cs t5.2) (m1 0))] H (λ_=>.q 7 rfl<|.q 3 rfl<|.q 5 rfl<|.e [] [1,0,2] [3,4,5] rfl rfl rfl rfl (QeI QqN (QgX.ok h8) z2 (.cons (.of z1)<|.cons (.of z0)<|.nil))<|.n) λ_ a w H=>?_;have H:=H.to [5,8,9,10,11,12,13,14,15,16] [_,_,_,_,_,_,_,_,_,_] [_,_,_] rfl rfl;refine Qcz H ?_;refine Qae (λ_ _ H=>(H.pick [1,2,3,4,5,6,7,8,9]).Xk [1,0,2] rfl) ?_;exact Qz J7 h [0,1,2,3,4,5,6,7,8]
 refine QP <|Qz J2 (ho _ (sj h).symm) [4,5,6,7,8,9]
def QjJ (x_:Int):Option (Int):=(idx ([0,1,1,2,1,2,2,3,1,2,2,3,2,3,3,4,1,2,2,3,2,3,3,4,2,3,3,4,3,4,4,5,1,2,2,3,2,3,3,4,2,3,3,4,3,4,4,5,2,3,3,4,3,4,4,5,3,4,4,5,4,5,5,6,1,2,2,3,2,3,3,4,2,3,3,4,3,4,4,5,2,3,3,4,3,4,4,5,3,4,4,5,4,5,5,6,2,3,3,4,3,4,4,5,3,4,4,5,4,5,5,6,3,4,4,5,4,5,5,6,4,5,5,6,5,6,6,7,1,2,2,3,2,3,3,4,2,3,3,4,3,4,4,5,2,3,3,4,3,4,4,5,3,4,4,5,4,5,5,6,2,3,3,4,3,4,4,5,3,4,4,5,4,5,5,6,3,4,4,5,4,5,5,6,4,5,5,6,5,6,6,7,2,3,3,4,3,4,4,5,3,4,4,5,4,5,5,6,3,4,4,5,4,5,5,6,4,5,5,6,5,6,6,7,3,4,4,5,4,5,5,6,4,5,5,6,5,6,6,7,4,5,5,6,5,6,6,7,5,6,6,7,6,7,7,8]:Str) (ishr .u32 x_ (24:Int))).bind λt0=>(idx ([0,1,1,2,1,2,2,3,1,2,2,3,2,3,3,4,1,2,2,3,2,3,3,4,2,3,3,4,3,4,4,5,1,2,2,3,2,3,3,4,2,3,3,4,3,4,4,5,2,3,3,4,3,4,4,5,3,4,4,5,4,5,5,6,1,2,2,3,2,3,3,4,2,3,3,4,3,4,4,5,2,3,3,4,3,4,4,5,3,4,4,5,4,5,5,6,2,3,3,4,3,4,4,5,3,4,4,5,4,5,5,6,3,4,4,5,4,5,5,6,4,5,5,6,5,6,6,7,1,2,2,3,2,3,3,4,2,3,3,4,3,4,4,5,2,3,3,4,3,4,4,5,3,4,4,5,4,5,5,6,2,3,3,4,3,4,4,5,3,4,4,5,4,5,5,6,3,4,4,5,4,5,5,6,4,5,5,6,5,6,6,7,2,3,3,4,3,4,4,5,3,4,4,5,4,5,5,6,3,4,4,5,4,5,5,6,4,5,5,6,5,6,6,7,3,4,4,5,4,5,5,6,4,5,5,6,5,6,6,7,4,5,5,6,5,6,6,7,5,6,6,7,6,7,7,8]:Str) (iand .u32 (ishr .u32 x_ (16:Int)) (255:Int))).bind λt1=>(idx ([0,1,1,2,1,2,2,3,1,2,2,3,2,3,3,4,1,2,2,3,2,3,3,4,2,3,3,4,3,4,4,5,1,2,2,3,2,3,3,4,2,3,3,4,3,4,4,5,2,3,3,4,3,4,4,5,3,4,4,5,4,5,5,6,1,2,2,3,2,3,3,4,2,3,3,4,3,4,4,5,2,3,3,4,3,4,4,5,3,4,4,5,4,5,5,6,2,3,3,4,3,4,4,5,3,4,4,5,4,5,5,6,3,4,4,5,4,5,5,6,4,5,5,6,5,6,6,7,1,2,2,3,2,3,3,4,2,3,3,4,3,4,4,5,2,3,3,4,3,4,4,5,3,4,4,5,4,5,5,6,2,3,3,4,3,4,4,5,3,4,4,5,4,5,5,6,3,4,4,5,4,5,5,6,4,5,5,6,5,6,6,7,2,3,3,4,3,4,4,5,3,4,4,5,4,5,5,6,3,4,4,5,4,5,5,6,4,5,5,6,5,6,6,7,3,4,4,5,4,5,5,6,4,5,5,6,5,6,6,7,4,5,5,6,5,6,6,7,5,6,6,7,6,7,7,8]:Str) (iand .u32 (ishr .u32 x_ (8:Int)) (255:Int))).bind λt2=>(idx ([0,1,1,2,1,2,2,3,1,2,2,3,2,3,3,4,1,2,2,3,2,3,3,4,2,3,3,4,3,4,4,5,1,2,2,3,2,3,3,4,2,3,3,4,3,4,4,5,2,3,3,4,3,4,4,5,3,4,4,5,4,5,5,6,1,2,2,3,2,3,3,4,2,3,3,4,3,4,4,5,2,3,3,4,3,4,4,5,3,4,4,5,4,5,5,6,2,3,3,4,3,4,4,5,3,4,4,5,4,5,5,6,3,4,4,5,4,5,5,6,4,5,5,6,5,6,6,7,1,2,2,3,2,3,3,4,2,3,3,4,3,4,4,5,2,3,3,4,3,4,4,5,3,4,4,5,4,5,5,6,2,3,3,4,3,4,4,5,3,4,4,5,4,5,5,6,3,4,4,5,4,5,5,6,4,5,5,6,5,6,6,7,2,3,3,4,3,4,4,5,3,4,4,5,4,5,5,6,3,4,4,5,4,5,5,6,4,5,5,6,5,6,6,7,3,4,4,5,4,5,5,6,4,5,5,6,5,6,6,7,4,5,5,6,5,6,6,7,5,6,6,7,6,7,7,8]:Str) (iand .u32 x_ (255:Int))).bind λt3=>(some (i64.wrap (u8.wrap ((u8.wrap ((u8.wrap ((t0.toNat:Int)+(t1.toNat:Int)))+(t2.toNat:Int)))+(t3.toNat:Int)))))
instance QtC:Spc1 prog 94 QjJ (λx_=>[tv (.int .u32 x_)]) ti:=.mk λ{x_ r} h=>by
 unfold QjJ at h
 refine Fe func94 ntmps94 λM0 M w0 hpl=>?_
 refine Qa [1] ?_
 have⟨t0,h0,t1,h1,t2,h2,t3,h3,h⟩:=bs4 h
 intro a w H
 refine sr mx [] H (λ_=>.q 0 rfl<|.o (Qcm z0 .k (by decide))<|.o (Qk3 ud9 .k z0 h0)<|.q 3 rfl<|.o (Qcm z0 .k (by decide))<|.o (Qdq z0 .k)<|.o (Qk3 ud9 .k z0 h1)<|.o (QaI z4 z0)<|.q 8 rfl<|.o (Qcm z0 .k (by decide))<|.o (Qdq z0 .k)<|.o (Qk3 ud9 .k z0 h2)<|.o (QaI z4 z0)<|.q 13 rfl<|.o (Qdq z0 .k)<|.o (Qk3 ud9 .k z0 h3)<|.o (QaI z3 z0)<|.o (Qfp ud5 ud3 z0)<|.o (Qp z0)<|.n) λ_ a w H=>?_
 have H:=H.t1_0 [18]
 refine Q8 H ?_
 exact Qo h (·▸Ql hpl)
def Qem (x_:Int):Option (Int):=(some (iand .i64 (i64.wrap (u64.wrap ((u64.wrap ((u64.wrap ((iand .u64 (u64.wrap ((ishr .u64 (u64.wrap ((iand .u64 (ishr .u64 (u64.wrap ((iand .u64 (ishr .u64 x_ (1:Int)) (6148914691236517205:Int))+(iand .u64 x_ (6148914691236517205:Int)))) (2:Int)) (3689348814741910323:Int))+(iand .u64 (u64.wrap ((iand .u64 (ishr .u64 x_ (1:Int)) (6148914691236517205:Int))+(iand .u64 x_ (6148914691236517205:Int)))) (3689348814741910323:Int)))) (4:Int))+(u64.wrap ((iand .u64 (ishr .u64 (u64.wrap ((iand .u64 (ishr .u64 x_ (1:Int)) (6148914691236517205:Int))+(iand .u64 x_ (6148914691236517205:Int)))) (2:Int)) (3689348814741910323:Int))+(iand .u64 (u64.wrap ((iand .u64 (ishr .u64 x_ (1:Int)) (6148914691236517205:Int))+(iand .u64 x_ (6148914691236517205:Int)))) (3689348814741910323:Int)))))) (1085102592571150095:Int))+(ishr .u64 (iand .u64 (u64.wrap ((ishr .u64 (u64.wrap ((iand .u64 (ishr .u64 (u64.wrap ((iand .u64 (ishr .u64 x_ (1:Int)) (6148914691236517205:Int))+(iand .u64 x_ (6148914691236517205:Int)))) (2:Int)) (3689348814741910323:Int))+(iand .u64 (u64.wrap ((iand .u64 (ishr .u64 x_ (1:Int)) (6148914691236517205:Int))+(iand .u64 x_ (6148914691236517205:Int)))) (3689348814741910323:Int)))) (4:Int))+(u64.wrap ((iand .u64 (ishr .u64 (u64.wrap ((iand .u64 (ishr .u64 x_ (1:Int)) (6148914691236517205:Int))+(iand .u64 x_ (6148914691236517205:Int)))) (2:Int)) (3689348814741910323:Int))+(iand .u64 (u64.wrap ((iand .u64 (ishr .u64 x_ (1:Int)) (6148914691236517205:Int))+(iand .u64 x_ (6148914691236517205:Int)))) (3689348814741910323:Int)))))) (1085102592571150095:Int)) (8:Int))))+(ishr .u64 (u64.wrap ((iand .u64 (u64.wrap ((ishr .u64 (u64.wrap ((iand .u64 (ishr .u64 (u64.wrap ((iand .u64 (ishr .u64 x_ (1:Int)) (6148914691236517205:Int))+(iand .u64 x_ (6148914691236517205:Int)))) (2:Int)) (3689348814741910323:Int))+(iand .u64 (u64.wrap ((iand .u64 (ishr .u64 x_ (1:Int)) (6148914691236517205:Int))+(iand .u64 x_ (6148914691236517205:Int)))) (3689348814741910323:Int)))) (4:Int))+(u64.wrap ((iand .u64 (ishr .u64 (u64.wrap ((iand .u64 (ishr .u64 x_ (1:Int)) (6148914691236517205:Int))+(iand .u64 x_ (6148914691236517205:Int)))) (2:Int)) (3689348814741910323:Int))+(iand .u64 (u64.wrap ((iand .u64 (ishr .u64 x_ (1:Int)) (6148914691236517205:Int))+(iand .u64 x_ (6148914691236517205:Int)))) (3689348814741910323:Int)))))) (1085102592571150095:Int))+(ishr .u64 (iand .u64 (u64.wrap ((ishr .u64 (u64.wrap ((iand .u64 (ishr .u64 (u64.wrap ((iand .u64 (ishr .u64 x_ (1:Int)) (6148914691236517205:Int))+(iand .u64 x_ (6148914691236517205:Int)))) (2:Int)) (3689348814741910323:Int))+(iand .u64 (u64.wrap ((iand .u64 (ishr .u64 x_ (1:Int)) (6148914691236517205:Int))+(iand .u64 x_ (6148914691236517205:Int)))) (3689348814741910323:Int)))) (4:Int))+(u64.wrap ((iand .u64 (ishr .u64 (u64.wrap ((iand .u64 (ishr .u64 x_ (1:Int)) (6148914691236517205:Int))+(iand .u64 x_ (6148914691236517205:Int)))) (2:Int)) (3689348814741910323:Int))+(iand .u64 (u64.wrap ((iand .u64 (ishr .u64 x_ (1:Int)) (6148914691236517205:Int))+(iand .u64 x_ (6148914691236517205:Int)))) (3689348814741910323:Int)))))) (1085102592571150095:Int)) (8:Int)))) (16:Int))))+(ishr .u64 (u64.wrap ((u64.wrap ((iand .u64 (u64.wrap ((ishr .u64 (u64.wrap ((iand .u64 (ishr .u64 (u64.wrap ((iand .u64 (ishr .u64 x_ (1:Int)) (6148914691236517205:Int))+(iand .u64 x_ (6148914691236517205:Int)))) (2:Int)) (3689348814741910323:Int))+(iand .u64 (u64.wrap ((iand .u64 (ishr .u64 x_ (1:Int)) (6148914691236517205:Int))+(iand .u64 x_ (6148914691236517205:Int)))) (3689348814741910323:Int)))) (4:Int))+(u64.wrap ((iand .u64 (ishr .u64 (u64.wrap ((iand .u64 (ishr .u64 x_ (1:Int)) (6148914691236517205:Int))+(iand .u64 x_ (6148914691236517205:Int)))) (2:Int)) (3689348814741910323:Int))+(iand .u64 (u64.wrap ((iand .u64 (ishr .u64 x_ (1:Int)) (6148914691236517205:Int))+(iand .u64 x_ (6148914691236517205:Int)))) (3689348814741910323:Int)))))) (1085102592571150095:Int))+(ishr .u64 (iand .u64 (u64.wrap ((ishr .u64 (u64.wrap ((iand .u64 (ishr .u64 (u64.wrap ((iand .u64 (ishr .u64 x_ (1:Int)) (6148914691236517205:Int))+(iand .u64 x_ (6148914691236517205:Int)))) (2:Int)) (3689348814741910323:Int))+(iand .u64 (u64.wrap ((iand .u64 (ishr .u64 x_ (1:Int)) (6148914691236517205:Int))+(iand .u64 x_ (6148914691236517205:Int)))) (3689348814741910323:Int)))) (4:Int))+(u64.wrap ((iand .u64 (ishr .u64 (u64.wrap ((iand .u64 (ishr .u64 x_ (1:Int)) (6148914691236517205:Int))+(iand .u64 x_ (6148914691236517205:Int)))) (2:Int)) (3689348814741910323:Int))+(iand .u64 (u64.wrap ((iand .u64 (ishr .u64 x_ (1:Int)) (6148914691236517205:Int))+(iand .u64 x_ (6148914691236517205:Int)))) (3689348814741910323:Int)))))) (1085102592571150095:Int)) (8:Int))))+(ishr .u64 (u64.wrap ((iand .u64 (u64.wrap ((ishr .u64 (u64.wrap ((iand .u64 (ishr .u64 (u64.wrap ((iand .u64 (ishr .u64 x_ (1:Int)) (6148914691236517205:Int))+(iand .u64 x_ (6148914691236517205:Int)))) (2:Int)) (3689348814741910323:Int))+(iand .u64 (u64.wrap ((iand .u64 (ishr .u64 x_ (1:Int)) (6148914691236517205:Int))+(iand .u64 x_ (6148914691236517205:Int)))) (3689348814741910323:Int)))) (4:Int))+(u64.wrap ((iand .u64 (ishr .u64 (u64.wrap ((iand .u64 (ishr .u64 x_ (1:Int)) (6148914691236517205:Int))+(iand .u64 x_ (6148914691236517205:Int)))) (2:Int)) (3689348814741910323:Int))+(iand .u64 (u64.wrap ((iand .u64 (ishr .u64 x_ (1:Int)) (6148914691236517205:Int))+(iand .u64 x_ (6148914691236517205:Int)))) (3689348814741910323:Int)))))) (1085102592571150095:Int))+(ishr .u64 (iand .u64 (u64.wrap ((ishr .u64 (u64.wrap ((iand .u64 (ishr .u64 (u64.wrap ((iand .u64 (ishr .u64 x_ (1:Int)) (6148914691236517205:Int))+(iand .u64 x_ (6148914691236517205:Int)))) (2:Int)) (3689348814741910323:Int))+(iand .u64 (u64.wrap ((iand .u64 (ishr .u64 x_ (1:Int)) (6148914691236517205:Int))+(iand .u64 x_ (6148914691236517205:Int)))) (3689348814741910323:Int)))) (4:Int))+(u64.wrap ((iand .u64 (ishr .u64 (u64.wrap ((iand .u64 (ishr .u64 x_ (1:Int)) (6148914691236517205:Int))+(iand .u64 x_ (6148914691236517205:Int)))) (2:Int)) (3689348814741910323:Int))+(iand .u64 (u64.wrap ((iand .u64 (ishr .u64 x_ (1:Int)) (6148914691236517205:Int))+(iand .u64 x_ (6148914691236517205:Int)))) (3689348814741910323:Int)))))) (1085102592571150095:Int)) (8:Int)))) (16:Int)))) (32:Int))))) (127:Int)))
instance QtD:Spc1 prog 95 Qem (λx_=>[tv (.int .u64 x_)]) ti:=.mk λ{x_ r} h=>by
 unfold Qem at h
 refine Fe func95 ntmps95 λM0 M w0 hpl=>?_
 refine Qa [1] ?_
 intro a w H
 refine sr mx [] H (λ_=>.q 0 rfl<|.o (Qcm z0 .k (by decide))<|.o (Qdq z0 .k)<|.q 3 rfl<|.o (Qdq z0 .k)<|.o (QaI z2 z0)<|.o (Qp z0)<|.n) λ_ a w H=>?_
 have H:=H.t1_0 [6]
 refine Q8 H ?_
 intro a w H
 refine sr mx [] H (λ_=>.q 0 rfl<|.o (Qcm z0 .k (by decide))<|.o (Qdq z0 .k)<|.q 3 rfl<|.o (Qdq z0 .k)<|.o (QaI z2 z0)<|.o (Qp z0)<|.n) λ_ a w H=>?_
 have H:=H.t1_0 [6]
 refine Q8 H ?_
 intro a w H
 refine sr mx [] H (λ_=>.q 0 rfl<|.o (Qcm z0 .k (by decide))<|.q 2 rfl<|.o (QaI z1 z0)<|.o (Qdq z0 .k)<|.o (Qp z0)<|.n) λ_ a w H=>?_
 have H:=H.t1_0 [5]
 refine Q8 H ?_
 intro a w H
 refine sr mx [] H (λ_=>.q 0 rfl<|.q 1 rfl<|.o (Qcm z0 .k (by decide))<|.o (QaI z2 z0)<|.o (Qp z0)<|.n) λ_ a w H=>?_
 have H:=H.t1_0 [4]
 refine Q8 H ?_
 intro a w H
 refine sr mx [] H (λ_=>.q 0 rfl<|.q 1 rfl<|.o (Qcm z0 .k (by decide))<|.o (QaI z2 z0)<|.o (Qp z0)<|.n) λ_ a w H=>?_
 have H:=H.t1_0 [4]
 refine Q8 H ?_
 intro a w H
 refine sr mx [] H (λ_=>.q 0 rfl<|.q 1 rfl<|.o (Qcm z0 .k (by decide))<|.o (QaI z2 z0)<|.o (Qp z0)<|.n) λ_ a w H=>?_
 have H:=H.t1_0 [4]
 refine Q8 H ?_
 intro a w H
 refine sr mx [] H (λ_=>.q 0 rfl<|.o (Qfp Qoa ud3 z0)<|.o (Qdq z0 .k)<|.o (Qp z0)<|.n) λ_ a w H=>?_
 have H:=H.t1_0 [3]
 refine Q8 H ?_
 exact Qo h (·▸Ql hpl)
def Qd6 (x_:Int):Option (Int):=(Qem x_).bind λt0=>(some t0)
instance QjK:Spc1 prog 35 Qd6 (λx_=>[tv (.int .u64 x_)]) ti:=.mk λ{x_ r} h=>by
 unfold Qd6 at h
 refine Fe func35 ntmps35 λM0 M w0 hpl=>?_
 refine Qa [1] ?_
 refine Qi λ_ k0=>?_
 refine Qsh ?_
 refine Qt ?_
 refine k0 ?_
 have⟨_,_,h⟩:=bs h
 refine Qa [2] ?_
 exact Qo h (·▸Ql hpl)
def QfE {S:Type} (Y:S->Int->Option (S⊕S)) (s_:S) (n_:Int):Option (S⊕S):=(Qu (λ(s0:Int×S)=>((if (decide (s0.1<(i64.wrap (n_+1))))=true then (nn n_).bind λ_=>(Qu (λ(s1:Int×S)=>((if (decide (s1.1<(ishl .u64 (1:Int) n_)))=true then (Qd6 s1.1).bind λt0=>((if (t0==s0.1)=true then Y s1.2 s1.1 else some (.inl s1.2))).bind λt1=>(match t1 with | .inl s2=>(some (.inl (u64.wrap (s1.1+1),s2))) | .inr s2=>(some (.inr (.inr s2)))) else (some (.inr (.inl s1.2)))):Option ((Int×S)⊕(S⊕S)))) ((0:Int),s0.2)).bind λe0=>(match e0 with | .inl s2=>(some (.inl (i64.wrap (s0.1+1),s2))) | .inr s2=>(some (.inr (.inr s2)))) else (some (.inr (.inl s0.2)))):Option ((Int×S)⊕(S⊕S)))) ((0:Int),s_))
theorem QkA {S:Type} {Y:S->Int->Option (S⊕S)} {s_:S} {n_:Int} {r:S⊕S} (h:QfE Y s_ n_=some r):QpW prog 93 [tptr (rI.cs n_)] .u64 Y s_ r:=by
 intro l W g0 hY;refine⟨λ_=>ttup [],?_⟩;unfold QfE at h;refine fe func93 ntmps93 λM0 M w0 a hpl H=>?_;refine wp_seq_k (λK0 k0=>?_);refine wr mx [] H (λ_=>.o (Q9 (R:=rI) (u:=n_) tok3 z1)<|.o (QaI z0 .k)<|.o (Qar .k)<|.n) λ_ a w H=>?_;have H:=H.t4_1 [2,1,3,4];refine k0 _ _ ?_;clear k0 K0;refine wp_block ?_;refine QeH _ (λ(s0:Int×S) a w=>∃g:Value,St M w0 27 [(7,ti s0.1),(6,ti (i64.wrap (n_+1))),(0,tv (.func (.yield l) #[] #[])),(1,tptr (rI.cs n_))] [W (.inl s0.2) g] a w) _ _ h ⟨g0,H⟩ ?_;clear h;intro s0 o a w K1 hI h ho k1;obtain⟨g1,H⟩:=hI;refine wp_seq_k (λK2 k2=>?_);refine wr mx [] H (λ_=>.o (QcD z0 z1)<|.n) λ_ a w H=>?_;replace H:St _ _ _ [_,_,_,_,_] [_] _ _:=H;refine k2 _ _ ?_;clear k2 K2;refine wp_seq_k (λK3 k3=>?_);refine wi H h (λb0 h=>?_) (λb0 h=>?_)
 ·have⟨u0,h0,e0,h1,h⟩:=bs2 h;refine wp_skip (k3 _ _ ?_);clear k3 K3;refine wp_seq_k (λK4 k4=>?_);refine wp_block ?_;refine wp_seq_k (λK5 k5=>?_);refine wr mx [] H (λ_=>.q 1 rfl<|.o (Qp z0)<|.n) λ_ a w H=>?_;have H:=H.to [1,3,4,5,6] [_,_,_,_,_] [_] rfl rfl;refine k5 _ _ ?_;clear k5 K5;refine wp_seq_k (λK6 k6=>?_);refine wr mx [] H (λ_=>.o (Q9 (R:=rI) (u:=n_) tok3 z4)<|.o (QxK .k z0 (QnX h0))<|.o (Qar .k)<|.n) λ_ a w H=>?_;have H:=H.to [2,1,3,4,5,6,7] [_,_,_,_,_,_,_] [_] rfl rfl;refine k6 _ _ ?_;clear k6 K6;refine wp_block ?_;have hJ:∀(g:Value) (s1:S) a w,e0=.inl s1->St M w0 27 [(7,ti s0.1),(6,ti (i64.wrap (n_+1))),(0,tv (.func (.yield l) #[] #[])),(1,tptr (rI.cs n_))] [W (.inl s1) g] a w->K4 a w:=by
   intro g s1 a w he H;subst he;simp only at h;refine k4 _ _ ?_;refine wr mx [] H (λ_=>.o (QaI z0 .k)<|.q 0 rfl<|.n) λ_ a w H=>?_;have H:=H.t4_1 [1,2,3,4];exact k1 _ _ _ (sj h).symm ⟨g,H⟩
  have hX:∀(g:Value) (s1:S) a w,e0=.inr s1->St M w0 27 [] [W (.inr s1) g] a w->Ret prog f93 M0 [W (.inl s_) g0] w0 (λx=>[W r x]) (λ_=>ttup []) .ret a w:=by
   intro g s1 a w he H;subst he;simp only at h;obtain rfl:=ho _ (sj h).symm;exact rt g [0] hpl H .nil
  clear h ho k1 k4;refine QeH _ (λ(s2:Int×S) a w=>∃g:Value,St M w0 27 [(12,tv (.int .u64 s2.1)),(11,tv (.int .u64 (ishl .u64 (1:Int) n_))),(3,ti s0.1),(7,ti s0.1),(6,ti (i64.wrap (n_+1))),(0,tv (.func (.yield l) #[] #[])),(1,tptr (rI.cs n_))] [W (.inl s2.2) g] a w) _ _ h1 ⟨g1,H⟩ ?_;clear h1;intro s2 o2 a w K7 hI h ho k7;obtain⟨g2,H⟩:=hI;refine wp_seq_k (λK8 k8=>?_);refine wr mx [] H (λ_=>.o (QcD z0 z1)<|.n) λ_ a w H=>?_;replace H:St _ _ _ [_,_,_,_,_,_,_,_] [_] _ _:=H;refine k8 _ _ ?_;clear k8 K8;refine wp_seq_k (λK9 k9=>?_);refine wi H h (λb1 h=>?_) (λb1 h=>?_)
  ·have⟨t0,h2,t1,h3,h⟩:=bs2 h;refine wp_skip (k9 _ _ ?_);clear k9 K9;refine wp_seq_k (λ_ k10=>?_);refine wp_block ?_;refine wp_seq_k (λK10 k11=>?_);refine wr mx [] H (λ_=>.q 1 rfl<|.o (Qp z0)<|.n) λ_ a w H=>?_;have H:=H.to [1,3,4,5,6,7,8,9] [_,_,_,_,_,_,_,_] [_] rfl rfl;refine k11 _ _ ?_;clear k11 K10;refine wp_seq_k (λK11 k12=>?_);refine QdR mixed [v1 7 (λv0=>bif (t0==s0.1)==true then W t1 v0 else W (.inl s2.2) g2)] H (λm0=>.q 0 rfl<|.o (QJ QqK (QjK.ok h2) (.cons (.of z0)<|.nil))<|.q 5 rfl<|.o (QcS z1 z0)<|.q 0 rfl<|.g rfl rfl bq0 (λ_=>Qar z11)<|.g rfl rfl bq1 (λ_=>Qar z6)<|.ge (N:=λc v0=>[bif c then W t1 v0 else W (.inl s2.2) g2]) [] [0] [1] rfl rfl rfl rfl rfl bq2 (λhc=>QtZ (.cond z1 hc) (.cond z0 hc) (hY _ _ _ _ ((Zb (by simpa using hc)).symm.trans h3))) rfl<|.g rfl rfl bq3 (λhc=>QgK (.cond z0 hc))<|.o (Qei z4 (λhp=>(.cond z0 (beqT hp))))<|.nil _ _) (by kernel_rfl) (λm0 a w H=>?_);refine k12 _ _ ?_;clear k12 K11;have hW:∃g,(bif (t0==s0.1)==true then W t1 (m0 7) else W (.inl s2.2) g2)=W t1 g:=by
    cases hc:(t0==s0.1) with
    | true=>exact⟨m0 7,rfl⟩
    | false=>rw[hc,Zc (by simp)] at h3;obtain rfl:=sj h3;exact⟨g2,rfl⟩
   obtain⟨g3,hW⟩:=hW;have H3:St M w0 27 [(24,tb ((t0==s0.1)&&!t1.isLeft)),(12,tv (.int .u64 s2.1)),(11,tv (.int .u64 (ishl .u64 (1:Int) n_))),(3,ti s0.1),(7,ti s0.1),(6,ti (i64.wrap (n_+1))),(0,tv (.func (.yield l) #[] #[])),(1,tptr (rI.cs n_))] [W t1 g3] a w:=by
    have H2:St M w0 27 [(24,tb ((t0==s0.1)&&!t1.isLeft)),(12,tv (.int .u64 s2.1)),(11,tv (.int .u64 (ishl .u64 (1:Int) n_))),(3,ti s0.1),(7,ti s0.1),(6,ti (i64.wrap (n_+1))),(0,tv (.func (.yield l) #[] #[])),(1,tptr (rI.cs n_))] [bif (t0==s0.1)==true then W t1 (m0 7) else W (.inl s2.2) g2] a w:=H.pick [9,11,12,13,14,15,16,17];rw[hW] at H2;exact H2
   replace H:=H3;refine wt H (λb2=>?_) (λb2=>?_)
   ·cases t1 with
    | inl s1=>simp at b2
    | inr s1=>
     simp only at h;refine wp_ret ?_;exact hX g3 s1 _ _ (ho _ (sj h).symm).symm (H.pick [])
   cases t1 with
   | inl s1=>
    simp only at h;refine wp_skip (k10 _ _ ?_);refine wr mx [] H (λ_=>.o (QaI z1 .k)<|.q 0 rfl<|.n) λ_ a w H=>?_;have H:=H.to [1,3,4,5,6,7,8] [_,_,_,_,_,_,_] [_] rfl rfl;exact k7 _ _ _ (sj h).symm ⟨g3,H⟩
   | inr s1=>
    exfalso;cases hc:(t0==s0.1) with
    | true=>rw[hc] at b2;simp at b2
    | false=>rw[hc,Zc (by simp)] at h3;cases sj h3
  refine wp_exit ?_;exact hJ g2 _ _ _ (ho _ (sj h).symm).symm (H.pick [4,5,6,7])
 refine wp_exit ?_;obtain rfl:=ho _ (sj h).symm;exact QmZ g1 [0] hpl H rfl .nil rfl rfl rfl
theorem QmK {n_:Int}:FnOk prog 34 [ti n_] [] (λ_=>[]) (λ_=>QaN 93 [tptr (rI.cs n_)]):=by
 refine fe func34 ntmps34 λM0 M w0 a hpl H=>?_;refine wp_seq_k (λK0 k0=>?_);refine wr mx [] H (λ_=>.o (QkY (R:=rI) (u:=n_) z0)<|.o (Qp .k)<|.n) λ_ a w H=>?_;have H:=H.t1_0 [0];refine k0 _ _ ?_;clear k0 K0;refine wp_seq_k (λ_ k1=>?_);refine wr mx [] H (λ_=>.o (Qic (.cons z0<|.nil))<|.o (Qp z0)<|.n) λ_ a w H=>?_;have H:=H.t1_0 [1];refine k1 _ _ ?_;refine wp_ret ?_;exact rt undef [] hpl H (.tmp z0 .nil)
def QhB (i_:Int) (c0_:Int):Option (Bool):=(nn i_).bind λ_=>(some ((iand .u64 (ishr .u64 c0_ i_) (1:Int))==1))
instance QpQ:Spc2 prog 36 QhB (λi_ c0_=>[ti i_,tptr ((rInt .u64).cs c0_)]) tb:=.mk λ{i_ c0_ r} h=>by
 unfold QhB at h
 refine Fe func36 ntmps36 λM0 M w0 hpl=>?_
 refine Qa [1,2] ?_
 have⟨_,h0,h⟩:=bs h
 intro a w H
 refine sr mx [] H (λ_=>.o (Q9 Qi4 z1)<|.q 1 rfl<|.o (Qcm z1 z0 (QnX h0))<|.o (Qdq z0 .k)<|.o (QcS z0 .k)<|.o (Qp z0)<|.n) λ_ a w H=>?_
 have H:=H.t1_0 [5]
 refine Q8 H ?_
 exact Qo h (·▸Ql hpl)
def QhC (k_:Int) (c0_:Int):Option (Bool):=(nn k_).bind λ_=>(some ((iand .u64 (ishr .u64 c0_ k_) (1:Int))==1))
instance QpR:Spc2 prog 37 QhC (λk_ c0_=>[ti k_,tptr ((rInt .u64).cs c0_)]) tb:=.mk λ{k_ c0_ r} h=>by
 unfold QhC at h
 refine Fe func37 ntmps37 λM0 M w0 hpl=>?_
 refine Qa [1,2] ?_
 have⟨_,h0,h⟩:=bs h
 intro a w H
 refine sr mx [] H (λ_=>.o (Q9 Qi4 z1)<|.q 1 rfl<|.o (Qcm z1 z0 (QnX h0))<|.o (Qdq z0 .k)<|.o (QcS z0 .k)<|.o (Qp z0)<|.n) λ_ a w H=>?_
 have H:=H.t1_0 [5]
 refine Q8 H ?_
 exact Qo h (·▸Ql hpl)
def Qh1 (x_:Qe):Option ((List Str)×Int):=(Qc5 x_).bind λt0=>(if (t0.2 !=0)=true then (some (([]:List Str),t0.2)) else (Qgy x_).bind λt1=>(if (decide ((t1.Xo.length:Int)>16))=true then (some (([]:List Str),(4:Int))) else (mk (x_.Xa.length:Int) ([]:(List Int))).bind λt2=>(Qu (λ(s0:Int×List (List Int))=>((if (decide (s0.1<(t2.length:Int)))=true then (Qdr t1 s0.1 (λx0=>Qh0 x0)).bind λt3=>(setAt s0.2 s0.1 t3).bind λt4=>(some (.inl ((i64.wrap (s0.1+1)),t4))) else (some (.inr s0.2))):Option ((Int×List (List Int))⊕((List (List Int)))))) ((0:Int),t2)).bind λp0=>(QbS t1 (λx0=>Qh0 x0) (λx0=>Qhy x0 p0)).bind λt5=>(if t5=true then (some (([]:List Str),(6:Int))) else (QfE (λ(s1:List Int) (m41:Int)=>((Qu (λ(s2:Int×List Int)=>((if (decide (s2.1<(x_.Xa.length:Int)))=true then (nn s2.1).bind λ_=>((if ((iand .u64 (ishr .u64 m41 s2.1) (1:Int))==1)=true then (idx p0 s2.1).bind λt6=>(rm (s2.2.length+t6.length)).bind λ_=>(idx p0 s2.1).bind λt7=>((if (t7.isEmpty)=true then (mk (i64.wrap ((t0.1.length:Int)+1)) (0:Int)).bind λt8=>(some t8) else (some (s2.2++t6)))).bind λp1=>(some p1) else (some s2.2))).bind λp2=>(some (.inl ((i64.wrap (s2.1+1)),p2))) else (some (.inr s2.2))):Option ((Int×List Int)⊕((List Int))))) ((0:Int),([]:List Int))).bind λp3=>((QfE (λ(s3:List Int) (m1394:Int)=>((Qd6 m1394).bind λt9=>(if (((!s3.isEmpty)&&(decide ((i64.wrap ((p3.length:Int)+t9))>=(s3.length:Int))))||(decide ((i64.wrap ((p3.length:Int)+t9))>(t0.1.length:Int))))=true then (some (.inr s3)) else (QbS t1 (λx0=>QhB x0 m1394) (λx0=>QhC x0 m41)).bind λt10=>(if t10=true then (some (.inl s3)) else (Qu (λ(s4:Int×List Int)=>((if (decide (s4.1<(t1.Xo.length:Int)))=true then (nn s4.1).bind λ_=>((if ((iand .u64 (ishr .u64 m1394 s4.1) (1:Int))==1)=true then (rm (s4.2.length+[s4.1].length)).bind λ_=>(some (s4.2++[s4.1])) else (some s4.2))).bind λp4=>(some (.inl ((i64.wrap (s4.1+1)),p4))) else (some (.inr s4.2))):Option ((Int×List Int)⊕((List Int))))) ((0:Int),([]:List Int))).bind λp5=>(Qu (λ(s5:Int×List Int)=>((if (decide (s5.1<(p3.length:Int)))=true then (idx p3 s5.1).bind λt11=>(rm (s5.2.length+[(i64.wrap ((t1.Xo.length:Int)+t11))].length)).bind λ_=>(some (.inl ((i64.wrap (s5.1+1)),(s5.2++[(i64.wrap ((t1.Xo.length:Int)+t11))])))) else (some (.inr s5.2))):Option ((Int×List Int)⊕((List Int))))) ((0:Int),p5)).bind λp6=>(some (.inr p6)))):Option ((List Int)⊕(List Int)))) s1 (t1.Xo.length:Int)).bind λt12=>(match t12 with | .inl s3=>(some s3) | .inr s3=>(some s3))).bind λp7=>(some (.inl p7)):Option ((List Int)⊕(List Int)))) ([]:List Int) (x_.Xa.length:Int)).bind λt2=>(match t2 with | .inl s1=>(Qdx s1).bind λt13=>(Qu (λ(s6:Int×List Str)=>((if (decide (s6.1<(t13.length:Int)))=true then (idx t13 s6.1).bind λt14=>(idx t0.1 t14).bind λt15=>(rm (s6.2.length+[t15].length)).bind λ_=>(some (.inl ((i64.wrap (s6.1+1)),(s6.2++[t15])))) else (some (.inr s6.2))):Option ((Int×List Str)⊕((List Str))))) ((0:Int),([]:List Str))).bind λp8=>(some (p8,(0:Int))) | .inr _=>none))))
instance QAu:SpcS prog 9 (∀{x_:Qe} {r:(List Str)×Int},Qh1 x_=some r->FnOk prog 9 [Qc.ty x_] [glo] (λ_=>[]) (λ_=>ttup [tsl rS r.1,ti r.2])):=.mk λ{x_ r} h=>by
 unfold Qh1 at h
 refine FnOk.enterM func9 rfl ntmps9 (leb rfl) (λM0 M w0 a hpl H=>?_)
 replace H:St M w0 168 [(0,Qc.ty x_)] [glo] a w0:=H
 refine sr mx [] H (λ_=>.o (QkY (R:=Qc) (u:=x_) z0)<|.o (Qp (.nilsl (R:=rS)))<|.o (Qp .k)<|.n) λ_ a w H=>?_
 have H:=H.to [0] [_] [_] rfl rfl
 have⟨t0,h0,h⟩:=bs h
 refine sr mx [v1 5 (λv0=>box ((rSl rS).cs ([]:(List Str))) v0),v1 5 (λv0=>box ((rSl rS).cs t0.1) v0)] H (λ_=>.o (Q9 QbJ z0)<|.u [0] rfl rfl ((QJ QqG (Qma.ok h0) (.cons (.of z0)<|.nil)).glo)<|.q 0 rfl<|.o (Qam z0 rfl)<|.o (Qam z1 rfl)<|.m [] [1] rfl rfl rfl (Qbo (R:=(rSl rS)) (a:=([]:(List Str))) QjO zok25)<|.e [] [1] [2] rfl rfl rfl rfl (QaL (R:=(rSl rS)) (a:=t0.1) QjO z0 z2 (leb rfl))<|.o (Qp z1)<|.n) λ_ a w H=>?_
 replace H:St _ _ _ [_,_,_] [_] _ _:=((((H.pick [5,6,7]).Xk [1,0] rfl).Xl 0 rfl).add 0 rfl (λ_ _ _ h=>h.2)).pick [0,3,4]
 refine wp_seq_k (λ_ k0=>?_)
 refine sr mx [] H (λ_=>.q 1 rfl<|.o (QnO z0 .k)<|.n) λ_ a w H=>?_
 have H:=H.t4_1 [1,2,3,4]
 refine wi H h (λb0 h=>?_) (λb0 h=>?_)
 ·refine sr mx [] H (λ_=>.q 2 rfl<|.o (Qp (.nilsl (R:=rS)))<|.o (Qp z1)<|.n) λ_ a w H=>?_
  have H:=H.t2_1 [1,2]
  refine wp_ret ?_
  obtain rfl:=sj h
  exact Qnu (Qfr undef [] hpl H rfl (.tmp z0 (.tmp z1 .nil)) rfl rfl rfl)
 refine wp_skip (k0 _ _ ?_)
 have⟨t1,h1,h⟩:=bs h
 refine sr mx [v1 2 (λv0=>box [tvs (.pointer none)] v0),v1 2 (λv0=>box ((rPtr QS).cs t1) v0)] H (λ_=>.o (Q9 QbJ z3)<|.u [0] rfl rfl ((QJ Qut (QpN.ok h1) (.cons (.of z0)<|.nil)).glo)<|.m [] [1] rfl rfl rfl (Qbo (R:=rVal) (a:=.pointer none) tokP73 zokP)<|.e [] [1] [2] rfl rfl rfl rfl (QaL (R:=(rPtr QS)) (a:=t1) QjP z0 z1 (leb rfl))<|.n) λ_ a w H=>?_
 replace H:St _ _ _ [_,_,_] [_] _ _:=((((H.pick [2,4,6]).Xk [1,0] rfl).Xl 0 rfl).add 0 rfl (λ_ _ _ h=>h.2)).pick [0,3,4]
 refine wp_seq_k (λ_ k1=>?_)
 refine sr mx [] H (λ_=>.o (Q9 QjP z0)<|.o (Qj1 z0)<|.o (Q4 Qlc z0)<|.o (Q2 (u:=t1.Xo) Qm5 z0 rfl)<|.o (Qgd ud75 z0)<|.o (Qjh z0 .k)<|.n) λ_ a w H=>?_
 have H:=H.t4_1 [5,6,7,8]
 refine wi H h (λb1 h=>?_) (λb1 h=>?_)
 ·refine sr mx [] H (λ_=>.o (Qp (.nilsl (R:=rS)))<|.o (Qp .k)<|.n) λ_ a w H=>?_
  have H:=H.t2_1 [0,1]
  refine wp_ret ?_
  obtain rfl:=sj h
  exact Qnu (Qfr undef [] hpl H rfl (.tmp z0 (.tmp z1 .nil)) rfl rfl rfl)
 refine wp_skip (k1 _ _ ?_)
 refine sr mx [v1 3 (λv0=>box (rI.cs (0:Int)) v0),v1 3 (λv0=>box (rI.cs (x_.Xa.length:Int)) v0)] H (λ_=>.o (Q4 QcU z3)<|.o (Q2 (u:=x_.Xa) QlE z0 rfl)<|.o (Qgd ud29 z0)<|.m [] [1] rfl rfl rfl (Qbo (R:=rI) (a:=(0:Int)) tok3 zok3)<|.e [] [1] [2] rfl rfl rfl rfl (QaL (R:=rI) (a:=(x_.Xa.length:Int)) tok3 z0 z1 (leb rfl))<|.n) λ_ a w H=>?_
 replace H:St _ _ _ [_,_,_] [_] _ _:=((((H.pick [3,5,6]).Xk [1,0] rfl).Xl 0 rfl).add 0 rfl (λ_ _ _ h=>h.2)).pick [0,3,4]
 have⟨t2,h2,h⟩:=bs h
 refine sr mx [v1 1 (λv0=>own (rSn rI) 22 t2 v0),v1 2 (λv0=>box (rVal.cs nilV) v0),v2 1 2 (λv0 v1=>box (rVal.cs v0) v1)] H (λ_=>.o (Q9 tok3 z0)<|.m [] [1] rfl rfl rfl (Qkb (R:=(rSn rI)) ud68 Qif zokN22 (leb rfl) z0 z0 h2)<|.m [] [2] rfl rfl rfl (QfM Qft)<|.e [1] [2] [3] rfl rfl rfl rfl (QdL (R:=(rSn rI)) (e:=22) (Ts:=(rVal.cs nilV)) Qft z0 z1 (leb rfl))<|.n) λm0 a w H=>?_
 have H:=H.to [1,2,3,4,5] [_,_,_,_,_] [_,_,_] rfl rfl
 refine wp_seq_k (λK0 k2=>?_)
 refine sr mx [] H (λ_=>.u [2] rfl rfl (Qbm Qft z1)<|.u [1] rfl rfl (Qdp ud68 z0)<|.o (Qar .k)<|.n) λ_ a w H=>?_
 have H:=H.to [0,1,2,3,4,5,6,7] [_,_,_,_,_,_,_,_] [_,_,_] rfl rfl
 have⟨e0,h3,h⟩:=bs h
 have J0:∀(p0:List (List Int)) a w,p0=e0->St M w0 168 [(8,tv (m0 2)),(7,tptr (rI.cs (x_.Xa.length:Int))),(6,tptr ((rPtr QS).cs t1)),(4,tptr ((rSl rS).cs t0.1))] [glo,own (rSn rI) 22 p0 (m0 1),box (rVal.cs (m0 1)) (m0 2)] a w->K0 a w:=by
  intro p0 a w he H;subst he;refine k2 _ _ ?_;refine wp_seq_k (λ_ k3=>?_);have⟨t3,h4,h⟩:=bs h;refine sr mx [] H (λ_=>.o (Q9 QjP z2)<|.o (Qic (.cons z1<|.nil))<|.u [2,1] rfl rfl (QfL [box (rVal.cs (m0 1)) (m0 2),own (rSn rI) 22 p0 (m0 1)] QqI (QhA.ok h4) (.cons (.of z1)<|.cons (.of (Fct.Xp .fnE (Qe2 QqH (λ_ _ hq=>Qno.ok hq))))<|.cons (Qb3.cloL z0 (.cons (QtL (.head _) (.tail _ (.head _)))<|.nil) (Qe2 Quv (λ_ _ hq=>QpO.ok hq)))<|.nil) (λ_=>Qd1) (λ_=>Qib (x:=undef)))<|.n) λ_ a w H=>?_;have H:=H.to [2,3,4,5,6] [_,_,_,_,_] [_,_,_] rfl rfl;refine wi H h (λb2 h=>?_) (λb2 h=>?_)
  ·refine sr mx [] H (λ_=>.o (Qp (.nilsl (R:=rS)))<|.o (Qp .k)<|.n) λ_ a w H=>?_;replace H:St _ _ _ [_,_] [_] _ _:=(H.pick [0,1]).Xk [0] rfl;refine wp_ret ?_;obtain rfl:=sj h;exact Qnu (Qfr undef [] hpl H rfl (.tmp z0 (.tmp z1 .nil)) rfl rfl rfl)
  refine wp_skip (k3 _ _ ?_);refine sr mx [v1 0 (λv0=>box (rVal.cs nilV) v0)] H (λ_=>.m [] [3] rfl rfl rfl (QfM QbB)<|.n) λm1 a w H=>?_;replace H:St _ _ _ [_,_,_,_,_] [_,_,_,_,_] _ _:=(H.pick [0,2,3,4,5]).nilN (rI) 3;refine wp_seq_k (λ_ k4=>?_);refine sr mx [] H (λ_=>.o (Q9 tok3 z2)<|.o (QJ QqJ QmK (.cons (.of z0)<|.nil))<|.n) λ_ a w H=>?_;have H:=H.to [1,2,3,4,5,6] [_,_,_,_,_,_] [_,_,_,_,_] rfl rfl;refine wp_block ?_;have⟨t2,h2,h⟩:=bs h;have H:=H.to [0,1,2,3,4,5] [_,_,_,_,_,_] [_,_,_,_,_] rfl rfl;refine Qt0 (A:=(λ(s1:List Int) y0=>[ownN rI 3 s1 y0,glo,own (rSn rI) 22 p0 (m0 1),box (rVal.cs (m0 1)) (m0 2),box (rVal.cs y0) (m1 0)])) (s0:=([]:List Int)) (g0:=nilV) (jump:=.ret) (jx:=.ret) .ret H z0 QqO (QkA h2) (by decide) rfl (λs1 y0 m41 r h M0 M w0 a l LR43 LB43 K Q hLB43 hpl H hK hN hX=>?_) (λs1 y0 D a w M he hpm H=>?_) (λs1 y0 D a w M he hpm H=>?_)
  ·replace H:St M w0 168 [(60,tv (.int .u64 m41)),(10,tv (m1 0)),(8,tv (m0 2)),(7,tptr (rI.cs (x_.Xa.length:Int))),(6,tptr ((rPtr QS).cs t1)),(4,tptr ((rSl rS).cs t0.1))] [LR43,ownN rI 3 s1 y0,glo,own (rSn rI) 22 p0 (m0 1),box (rVal.cs (m0 1)) (m0 2),box (rVal.cs y0) (m1 0)] a w0:=H.pick [0,2,3,4,5,6];refine Qbd mixed [v1 0 (λv0=>box ((rInt .u64).cs (0:Int)) v0),v1 0 (λv0=>box ((rInt .u64).cs m41) v0)] H (λ_=>.m [] [6] rfl rfl rfl (Qbo (R:=(rInt .u64)) (a:=(0:Int)) Qi4 zok86)<|.e [] [6] [7] rfl rfl rfl rfl (QaL (R:=(rInt .u64)) (a:=m41) Qi4 z0 z1 (leb rfl))<|.nil _ _) (by kernel_rfl) (λ_ a w H=>?_);replace H:St _ _ _ [_,_,_,_,_,_] [_,_,_,_,_,_] _ _:=((((H.pick [0,2,3,4,5,6]).Xk [6,0,1,2,3,4,5] rfl).Xl 0 rfl).add 0 rfl (λ_ _ _ h=>h.2)).pick [0,3,4,5,6,7];refine hK _ _ _ _ H (λw H=>?_);refine Qe4 ?_;refine Qay (λ_ k5=>?_);refine Qbd mixed [v1 0 (λv0=>box (rVal.cs nilV) v0)] H (λ_=>.m [] [6] rfl rfl rfl (QfM QbB)<|.nil _ _) (by kernel_rfl) (λm2 a w H=>?_);replace H:St _ _ _ [_,_,_,_,_,_,_] [_,_,_,_,_,_,_,_] _ _:=(H.pick [0,1,2,3,4,5,6]).nil (rI) 3;refine k5 _ _ ?_;refine Qay (λK1 k6=>?_);refine Qay (λ_ k7=>?_);refine Qbd mixed [] H (λ_=>.o (Q9 tok3 z4)<|.o (Qar .k)<|.nil _ _) (by kernel_rfl) (λ_ a w H=>?_);have H:=H.to [0,1,2,3,4,5,6,7,8] [_,_,_,_,_,_,_,_,_] [_,_,_,_,_,_,_,_] rfl rfl;refine k7 _ _ ?_;have⟨e1,h5,h⟩:=bs h;have J1:∀(p1:List Int) (y1:Value) a w,p1=e1->St M w0 168 [(12,tv (m2 0)),(11,tptr ((rInt .u64).cs m41)),(10,tv (m1 0)),(8,tv (m0 2)),(7,tptr (rI.cs (x_.Xa.length:Int))),(6,tptr ((rPtr QS).cs t1)),(4,tptr ((rSl rS).cs t0.1))] [own rI 3 p1 y1,LB43,ownN rI 3 s1 y0,glo,own (rSn rI) 22 p0 (m0 1),box (rVal.cs (m0 1)) (m0 2),box (rVal.cs y0) (m1 0),box (rVal.cs y1) (m2 0)] a w->K1 a w:=by
    intro p1 y1 a w he H;subst he;refine k6 _ _ ?_;refine Qay (λ_ k8=>?_);refine Qbd mixed [] H (λ_=>.o (Q9 QjP z5)<|.o (Qj1 z0)<|.o (Q4 Qlc z0)<|.o (Q2 (u:=t1.Xo) Qm5 z0 rfl)<|.o (Qgd ud75 z0)<|.o (QJ QqJ QmK (.cons (.of z0)<|.nil))<|.nil _ _) (by kernel_rfl) (λ_ a w H=>?_);have H:=H.to [5,6,7,8,9,10,11,12] [_,_,_,_,_,_,_,_] [_,_,_,_,_,_,_,_] rfl rfl;refine k8 _ _ ?_;have⟨p2,h6,h⟩:=bs h;have J2:∀(y2:Value) a w,St M w0 168 [(10,tv (m1 0)),(8,tv (m0 2)),(7,tptr (rI.cs (x_.Xa.length:Int))),(6,tptr ((rPtr QS).cs t1)),(4,tptr ((rSl rS).cs t0.1))] [LB43,ownN rI 3 p2 y2,glo,own (rSn rI) 22 p0 (m0 1),box (rVal.cs (m0 1)) (m0 2),box (rVal.cs y2) (m1 0)] a w->Q .normal a w:=by
     intro y2 a w H;obtain rfl:=sj h;exact hN _ y2 _ [0,1,2,3,4,5] _ _ _ rfl H rfl (λ_=>rfl)
    replace h:=h6;clear h6;refine Qe4 ?_;have⟨t4,h7,h⟩:=bs h;have H:=H.to [0,1,2,3,4,5,6,7] [_,_,_,_,_,_,_,_] [_,_,_,_,_,_,_,_] rfl rfl;refine QsG (A:=(λ(s2:List Int) y3=>[own rI 3 p1 y1,LB43,ownN rI 3 s2 y3,glo,own (rSn rI) 22 p0 (m0 1),box (rVal.cs (m0 1)) (m0 2),box (rVal.cs y3) (m1 0),box (rVal.cs y1) (m2 0)])) (s0:=s1) (g0:=y0) (jump:=(.exit 6)) (jx:=(.exit 6)) (.exit 6) hLB43 (.tail _ (.head _)) H z0 QqO (QkA h7) (by decide) rfl (λs2 y3 m1394 r h M0 M w0 a l LR1396 LB1396 K Q hLB1396 hpl H hK hN hX=>?_) (λs2 y3 w he H=>?_) (λs2 y3 w he H=>?_)
    ·replace H:St M w0 168 [(92,tv (.int .u64 m1394)),(12,tv (m2 0)),(11,tptr ((rInt .u64).cs m41)),(10,tv (m1 0)),(8,tv (m0 2)),(7,tptr (rI.cs (x_.Xa.length:Int))),(6,tptr ((rPtr QS).cs t1)),(4,tptr ((rSl rS).cs t0.1))] [LR1396,own rI 3 p1 y1,LB43,ownN rI 3 s2 y3,glo,own (rSn rI) 22 p0 (m0 1),box (rVal.cs (m0 1)) (m0 2),box (rVal.cs y3) (m1 0),box (rVal.cs y1) (m2 0)] a w0:=H.pick [0,2,3,4,5,6,7,8];refine Qbd mixed [v1 0 (λv0=>box ((rInt .u64).cs (0:Int)) v0),v1 0 (λv0=>box ((rInt .u64).cs m1394) v0)] H (λ_=>.m [] [9] rfl rfl rfl (Qbo (R:=(rInt .u64)) (a:=(0:Int)) Qi4 zok86)<|.e [] [9] [10] rfl rfl rfl rfl (QaL (R:=(rInt .u64)) (a:=m1394) Qi4 z0 z1 (leb rfl))<|.nil _ _) (by kernel_rfl) (λ_ a w H=>?_);replace H:St _ _ _ [_,_,_,_,_,_,_,_] [_,_,_,_,_,_,_,_,_] _ _:=((((H.pick [0,2,3,4,5,6,7,8]).Xk [9,0,1,2,3,4,5,6,7,8] rfl).Xl 0 rfl).add 0 rfl (λ_ _ _ h=>h.2)).pick [0,3,4,5,6,7,8,9];refine hK _ _ _ _ H (λw H=>?_);refine Qe4 ?_;refine Qay (λ_ k9=>?_);have⟨t5,h8,h⟩:=bs h;refine Qbd mixed [] H (λ_=>.u [8] rfl rfl (Qbm QbB z1)<|.u [1] rfl rfl (Qdp ud22 z0)<|.o (Q9 Qi4 z2)<|.o (QJ QqK (QjK.ok h8) (.cons (.of z0)<|.nil))<|.o (QaI z2 z0)<|.o (Qp z0)<|.nil _ _) (by kernel_rfl) (λ_ a w H=>?_);have H:=H.to [0,5,6,7,8,9,10,11,12,13] [_,_,_,_,_,_,_,_,_,_] [_,_,_,_,_,_,_,_,_] rfl rfl;refine k9 _ _ ?_;refine Qay (λ_ k10=>?_);refine Qay (λ_ k11=>?_);refine Qbd mixed [] H (λ_=>.u [7] rfl rfl (Qbm QbB z5)<|.u [3] rfl rfl (Qt1 ud22 z0)<|.q 0 rfl<|.g rfl rfl bq0 (λ_=>Qar z4)<|.gu [7] rfl rfl rfl bq1 (λ_=>Qbm QbB z9)<|.gu [3] rfl rfl rfl bq2 (λhc=>(Qdp ud22 (.cond z0 hc)).useN)<|.g rfl rfl bq3 (λhc=>QnN (.cond z2 hc) (.cond z0 hc))<|.o (Qei z4 (λhp=>(.cond z0 (beqT hp))))<|.q 0 rfl<|.g rfl rfl bq0 (λ_=>Qar z10)<|.g rfl rfl bq1 (λ_=>Q9 QjO z19)<|.g rfl rfl bq2 (λhc=>Qgd ud25 (.cond z0 hc))<|.g rfl rfl bq3 (λhc=>Qjh (.cond z2 hc) (.cond z0 hc))<|.o (Qsq z4 (λhp=>(.cond z0 (beqF hp))))<|.nil _ _) (by kernel_rfl) (λ_ a w H=>?_);have H:=H.t11_9 [0,13,14,16,17,18,19,20,21,22,23];refine k11 _ _ ?_;refine QgN 1 H rfl (λb3=>?_) (λb3=>?_)
     ·replace h:=QdJ b3 h;refine QiH ?_;obtain rfl:=sj h;exact hX _ y3 _ [0,1,2,3,4,5,6,7,8] _ _ _ rfl H rfl (λ_=>rfl)
     replace h:=QdK b3 h;refine QgO ?_;refine k10 _ _ ?_;refine Qay (λ_ k12=>?_);refine Qay (λ_ k13=>?_);have⟨t6,h9,h⟩:=bs h;refine Qbd mixed [] H (λ_=>.o (Q9 QjP z9)<|.o (Qic (.cons z4<|.nil))<|.o (Qic (.cons z7<|.nil))<|.o (QJ QqI (QhA.ok h9) (.cons (.of z2)<|.cons (.of (Fct.Xp z1 (Qe2 Quw (λ_ _ hq=>QpQ.ok hq))))<|.cons (.of (Fct.Xp z0 (Qe2 Qux (λ_ _ hq=>QpR.ok hq))))<|.nil))<|.nil _ _) (by kernel_rfl) (λ_ a w H=>?_);have H:=H.t11_9 [3,4,6,7,8,9,10,11,12,13,14];refine k13 _ _ ?_;refine QgN 0 H rfl (λb4=>?_) (λb4=>?_)
     ·replace h:=QdJ b4 h;refine QiH ?_;obtain rfl:=sj h;exact hN _ y3 _ [0,1,2,3,4,5,6,7,8] _ _ _ rfl H rfl (λ_=>rfl)
     replace h:=QdK b4 h;refine QgO ?_;refine k12 _ _ ?_;refine Qay (λ_ k14=>?_);refine Qbd mixed [v0 (box (rVal.cs nilV) (m1 0))] H (λ_=>.e [] [7] [9] rfl rfl rfl rfl (QaL (R:=rVal) (a:=nilV) QbB z6 .nilV (leb rfl))<|.nil _ _) (by kernel_rfl) (λ_ a w H=>?_);replace H:St _ _ _ [_,_,_,_,_,_,_,_,_,_] [_,_,_,_,_,_,_,_,_,_] _ _:=(H.pick [1,2,3,4,5,6,7,8,9,10]).nilN (rI) 3;refine k14 _ _ ?_;refine Qay (λK2 k15=>?_);refine Qay (λ_ k16=>?_);refine Qbd mixed [] H (λ_=>.o (Q9 QjP z8)<|.o (Qj1 z0)<|.o (Q4 Qlc z0)<|.o (Q2 (u:=t1.Xo) Qm5 z0 rfl)<|.o (Qgd ud75 z0)<|.o (Qar .k)<|.nil _ _) (by kernel_rfl) (λ_ a w H=>?_);have H:=H.to [4,5,6,7,8,9,10,11,12,13,14,15] [_,_,_,_,_,_,_,_,_,_,_,_] [_,_,_,_,_,_,_,_,_,_] rfl rfl;refine k16 _ _ ?_;have⟨e2,h10,h⟩:=bs h;have J3:∀(p3:List Int) (y4:Value) a w,p3=e2->St M w0 168 [(12,tv (m2 0)),(11,tptr ((rInt .u64).cs m41)),(10,tv (m1 0)),(8,tv (m0 2)),(7,tptr (rI.cs (x_.Xa.length:Int))),(6,tptr ((rPtr QS).cs t1)),(4,tptr ((rSl rS).cs t0.1))] [ownN rI 3 p3 y4,LB1396,own rI 3 p1 y1,LB43,glo,own (rSn rI) 22 p0 (m0 1),box (rVal.cs (m0 1)) (m0 2),box (rVal.cs y1) (m2 0),box (rVal.cs y4) (m1 0)] a w->K2 a w:=by
      intro p3 y4 a w he H;subst he;refine k15 _ _ ?_;refine Qay (λK3 k17=>?_);refine Qay (λ_ k18=>?_);refine Qbd mixed [] H (λ_=>.u [7] rfl rfl (Qbm QbB z0)<|.u [2] rfl rfl (Qdp ud22 z0)<|.o (Qar .k)<|.nil _ _) (by kernel_rfl) (λ_ a w H=>?_);have H:=H.to [0,1,2,3,4,5,6,7,8,9] [_,_,_,_,_,_,_,_,_,_] [_,_,_,_,_,_,_,_,_] rfl rfl;refine k18 _ _ ?_;have⟨e3,h11,h⟩:=bs h;have J4:∀(p4:List Int) (y5:Value) a w,p4=e3->St M w0 168 [(12,tv (m2 0)),(11,tptr ((rInt .u64).cs m41)),(10,tv (m1 0)),(8,tv (m0 2)),(7,tptr (rI.cs (x_.Xa.length:Int))),(6,tptr ((rPtr QS).cs t1)),(4,tptr ((rSl rS).cs t0.1))] [ownN rI 3 p4 y5,LB1396,own rI 3 p1 y1,LB43,glo,own (rSn rI) 22 p0 (m0 1),box (rVal.cs (m0 1)) (m0 2),box (rVal.cs y1) (m2 0),box (rVal.cs y5) (m1 0)] a w->K3 a w:=by
       intro p4 y5 a w he H;subst he;refine k17 _ _ ?_;refine QiH ?_;obtain rfl:=sj h;exact hX _ y5 _ [0,1,2,3,4,5,6,7,8] _ _ _ rfl (H.Xk [1,2,3,0,4,5,6,8,7] rfl) rfl (λ_=>rfl)
      refine Qe4 ?_;refine Qmv _ (λ(s3:Int×List Int) a w=>∃y6:Value,St M w0 168 [(134,tv y1),(135,ti (p1.length:Int)),(136,ti s3.1),(12,tv (m2 0)),(11,tptr ((rInt .u64).cs m41)),(10,tv (m1 0)),(8,tv (m0 2)),(7,tptr (rI.cs (x_.Xa.length:Int))),(6,tptr ((rPtr QS).cs t1)),(4,tptr ((rSl rS).cs t0.1))] [ownN rI 3 s3.2 y6,LB1396,own rI 3 p1 y1,LB43,glo,own (rSn rI) 22 p0 (m0 1),box (rVal.cs (m0 1)) (m0 2),box (rVal.cs y1) (m2 0),box (rVal.cs y6) (m1 0)] a w) _ _ h11 ⟨y4,H.pick [0,1,2,3,4,5,6,7,8,9]⟩ ?_;clear h;intro s3 o a w K4 hI h ho k19;obtain⟨y6,H⟩:=hI;refine Qay (λ_ k20=>?_);refine Qbd mixed [] H (λ_=>.o (QcD z2 z1)<|.nil _ _) (by kernel_rfl) (λ_ a w H=>?_);have H:=H.t11_9 [0,1,2,3,4,5,6,7,8,9,10];refine k20 _ _ ?_;refine Qay (λ_ k21=>?_);refine QgN 0 H rfl (λb5=>?_) (λb5=>?_)
      ·replace h:=QdJ b5 h;refine QgO ?_;refine k21 _ _ ?_;refine Qay (λ_ k22=>?_);refine Qe4 ?_;refine Qay (λ_ k23=>?_);have⟨t7,h12,h⟩:=bs h;refine Qbd mixed [] H (λ_=>.u [2] rfl rfl (QaM ud22 tok3 z1 z3 h12)<|.u [2] rfl rfl (Qea tok3 z0 h12)<|.o (Qp z0)<|.nil _ _) (by kernel_rfl) (λ_ a w H=>?_);have H:=H.t11_9 [2,4,5,6,7,8,9,10,11,12,13];refine k23 _ _ ?_;have⟨u0,h13,h⟩:=bs h;refine Qbd mixed [v1 9 (λv0=>ownN rI 3 (s3.2++[(i64.wrap ((t1.Xo.length:Int)+t7))]) v0),v1 9 (λv0=>box (rVal.cs v0) (m1 0))] H (λ_=>.u [8] rfl rfl (Qbm QbB z6)<|.o (Q9 QjP z10)<|.o (Qj1 z0)<|.o (Q4 Qlc z0)<|.o (Q2 (u:=t1.Xo) Qm5 z0 rfl)<|.o (Qgd ud75 z0)<|.q 6 rfl<|.o (QaI z1 z0)<|.o (Qak (R:=rI) (us:=[(i64.wrap ((t1.Xo.length:Int)+t7))]) ud22 tok3 (.cons z0<|.nil _) rfl (leb rfl))<|.e [] [0] [9] rfl rfl rfl rfl ((Qa3 (R:=rI) ud22 tok3 (leb rfl) z8 z0 h13).eatN (by simp))<|.e [9] [8] [10] rfl rfl rfl rfl ((QdL (R:=rI) (e:=3) (Ts:=(rVal.cs y6)) QbB z16 z0 (leb rfl)).useN)<|.nil _ _) (by kernel_rfl) (λm3 a w H=>?_);have H:=H.t11_9 [9,11,12,13,14,15,16,17,18,19,20];refine k22 _ _ ?_;refine Qbd mixed [] H (λ_=>.o (QaI z3 .k)<|.q 0 rfl<|.nil _ _) (by kernel_rfl) (λ_ a w H=>?_);have H:=H.t11_9 [1,2,3,4,5,6,7,8,9,10,11];exact k19 _ _ _ (sj h).symm ⟨(m3 9),(H.pick [2,3,0,4,5,6,7,8,9,10]).Xk [7,0,1,2,3,4,5,6,8] rfl⟩
      replace h:=QdK b5 h;refine QiH ?_;exact J4 _ y6 _ _ (ho _ (sj h).symm) (H.pick [4,5,6,7,8,9,10])
     refine Qe4 ?_;refine Qmv _ (λ(s4:Int×List Int) a w=>∃y7:Value,St M w0 168 [(120,ti (t1.Xo.length:Int)),(121,ti s4.1),(14,tptr ((rInt .u64).cs m1394)),(12,tv (m2 0)),(11,tptr ((rInt .u64).cs m41)),(10,tv (m1 0)),(8,tv (m0 2)),(7,tptr (rI.cs (x_.Xa.length:Int))),(6,tptr ((rPtr QS).cs t1)),(4,tptr ((rSl rS).cs t0.1))] [ownN rI 3 s4.2 y7,LB1396,own rI 3 p1 y1,LB43,glo,own (rSn rI) 22 p0 (m0 1),box (rVal.cs (m0 1)) (m0 2),box (rVal.cs y1) (m2 0),box (rVal.cs y7) (m1 0)] a w) _ _ h10 ⟨nilV,(H.pick [0,1,4,5,6,7,8,9,10,11]).Xk [0,1,2,3,5,6,7,8,9] rfl⟩ ?_;clear h;intro s4 o a w K5 hI h ho k24;obtain⟨y7,H⟩:=hI;refine Qay (λ_ k25=>?_);refine Qbd mixed [] H (λ_=>.o (QcD z1 z0)<|.nil _ _) (by kernel_rfl) (λ_ a w H=>?_);have H:=H.t11_9 [0,1,2,3,4,5,6,7,8,9,10];refine k25 _ _ ?_;refine Qay (λ_ k26=>?_);refine QgN 0 H rfl (λb6=>?_) (λb6=>?_)
     ·replace h:=QdJ b6 h;refine QgO ?_;refine k26 _ _ ?_;refine Qay (λK6 k27=>?_);refine Qe4 ?_;refine Qay (λ_ k28=>?_);refine Qbd mixed [] H (λ_=>.q 2 rfl<|.o (Qp z0)<|.nil _ _) (by kernel_rfl) (λ_ a w H=>?_);have H:=H.t11_9 [1,3,4,5,6,7,8,9,10,11,12];refine k28 _ _ ?_;refine Qay (λ_ k29=>?_);have⟨u1,h14,h⟩:=bs h;refine Qbd mixed [] H (λ_=>.o (Q9 Qi4 z3)<|.q 1 rfl<|.o (Qcm z1 z0 (QnX h14))<|.o (Qdq z0 .k)<|.o (QcS z0 .k)<|.nil _ _) (by kernel_rfl) (λ_ a w H=>?_);have H:=H.to [4,5,6,7,8,9,10,11,12,13,14,15] [_,_,_,_,_,_,_,_,_,_,_,_] [_,_,_,_,_,_,_,_,_] rfl rfl;refine k29 _ _ ?_;have⟨p5,h15,h⟩:=bs h;have J5:∀(y8:Value) a w,St M w0 168 [(120,ti (t1.Xo.length:Int)),(121,ti s4.1),(14,tptr ((rInt .u64).cs m1394)),(12,tv (m2 0)),(11,tptr ((rInt .u64).cs m41)),(10,tv (m1 0)),(8,tv (m0 2)),(7,tptr (rI.cs (x_.Xa.length:Int))),(6,tptr ((rPtr QS).cs t1)),(4,tptr ((rSl rS).cs t0.1))] [LB1396,own rI 3 p1 y1,LB43,glo,own (rSn rI) 22 p0 (m0 1),box (rVal.cs (m0 1)) (m0 2),box (rVal.cs y1) (m2 0),ownN rI 3 p5 y8,box (rVal.cs y8) (m1 0)] a w->K6 a w:=by
       intro y8 a w H;refine k27 _ _ ?_;refine Qbd mixed [] H (λ_=>.o (QaI z1 .k)<|.q 0 rfl<|.nil _ _) (by kernel_rfl) (λ_ a w H=>?_);have H:=H.to [1,2,3,4,5,6,7,8,9,10] [_,_,_,_,_,_,_,_,_,_] [_,_,_,_,_,_,_,_,_] rfl rfl;exact k24 _ _ _ (sj h).symm ⟨y8,(H.pick [1,0,2,3,4,5,6,7,8,9]).Xk [7,0,1,2,3,4,5,6,8] rfl⟩
      replace h:=h15;clear h15;refine QgN 0 H rfl (λb7=>?_) (λb7=>?_)
      ·replace h:=QdJ b7 h;have⟨u2,h16,h⟩:=bs h;refine Qbd mixed [v1 3 (λv0=>ownN rI 3 (s4.2++[s4.1]) v0),v1 3 (λv0=>box (rVal.cs v0) (m1 0))] H (λ_=>.u [8] rfl rfl (Qbm QbB z7)<|.q 2 rfl<|.o (Qak (R:=rI) (us:=[s4.1]) ud22 tok3 (.cons z0<|.nil _) rfl (leb rfl))<|.e [] [0] [9] rfl rfl rfl rfl ((Qa3 (R:=rI) ud22 tok3 (leb rfl) z2 z0 h16).eatN (by simp))<|.e [9] [8] [10] rfl rfl rfl rfl ((QdL (R:=rI) (e:=3) (Ts:=(rVal.cs y7)) QbB z11 z0 (leb rfl)).useN)<|.nil _ _) (by kernel_rfl) (λm4 a w H=>?_);have H:=H.t11_9 [3,6,7,8,9,10,11,12,13,14,15];obtain rfl:=sj h;exact J5 (m4 3) _ _ (H.pick [1,2,3,4,5,6,7,8,9,10])
      replace h:=QdK b7 h;refine QgO ?_;obtain rfl:=sj h;exact J5 y7 _ _ ((H.pick [2,3,4,5,6,7,8,9,10,11]).Xk [1,2,3,4,5,6,7,0,8] rfl)
     replace h:=QdK b6 h;refine QiH ?_;exact J3 _ y7 _ _ (ho _ (sj h).symm) (H.pick [4,5,6,7,8,9,10])
    ·subst he;simp only at h;have H:=H.to [1,2,3,4,5,6,7] [_,_,_,_,_,_,_] [_,_,_,_,_,_,_,_] rfl rfl;obtain rfl:=sj h;exact J2 y3 _ _ ((H.pick [2,3,4,5,6]).Xk [1,2,3,4,5,6] rfl)
    subst he;simp only at h;have H:=H.to [1,2,3,4,5,6,7] [_,_,_,_,_,_,_] [_,_,_,_,_,_,_,_] rfl rfl;obtain rfl:=sj h;exact J2 y3 _ _ ((H.pick [2,3,4,5,6]).Xk [1,2,3,4,5,6] rfl)
   refine Qe4 ?_;refine Qmv _ (λ(s5:Int×List Int) a w=>∃y9:Value,St M w0 168 [(61,ti (x_.Xa.length:Int)),(62,ti s5.1),(12,tv (m2 0)),(11,tptr ((rInt .u64).cs m41)),(10,tv (m1 0)),(8,tv (m0 2)),(7,tptr (rI.cs (x_.Xa.length:Int))),(6,tptr ((rPtr QS).cs t1)),(4,tptr ((rSl rS).cs t0.1))] [own rI 3 s5.2 y9,LB43,ownN rI 3 s1 y0,glo,own (rSn rI) 22 p0 (m0 1),box (rVal.cs (m0 1)) (m0 2),box (rVal.cs y0) (m1 0),box (rVal.cs y9) (m2 0)] a w) _ _ h5 ⟨nilV,H.pick [0,1,2,3,4,5,6,7,8]⟩ ?_;clear h;intro s5 o a w K7 hI h ho k30;obtain⟨y9,H⟩:=hI;refine Qay (λ_ k31=>?_);refine Qbd mixed [] H (λ_=>.o (QcD z1 z0)<|.nil _ _) (by kernel_rfl) (λ_ a w H=>?_);have H:=H.to [0,1,2,3,4,5,6,7,8,9] [_,_,_,_,_,_,_,_,_,_] [_,_,_,_,_,_,_,_] rfl rfl;refine k31 _ _ ?_;refine Qay (λ_ k32=>?_);refine QgN 0 H rfl (λb8=>?_) (λb8=>?_)
   ·replace h:=QdJ b8 h;refine QgO ?_;refine k32 _ _ ?_;refine Qay (λK8 k33=>?_);refine Qe4 ?_;refine Qay (λ_ k34=>?_);refine Qbd mixed [] H (λ_=>.q 2 rfl<|.o (Qp z0)<|.nil _ _) (by kernel_rfl) (λ_ a w H=>?_);have H:=H.to [1,3,4,5,6,7,8,9,10,11] [_,_,_,_,_,_,_,_,_,_] [_,_,_,_,_,_,_,_] rfl rfl;refine k34 _ _ ?_;refine Qay (λ_ k35=>?_);have⟨u3,h17,h⟩:=bs h;refine Qbd mixed [] H (λ_=>.o (Q9 Qi4 z4)<|.q 1 rfl<|.o (Qcm z1 z0 (QnX h17))<|.o (Qdq z0 .k)<|.o (QcS z0 .k)<|.nil _ _) (by kernel_rfl) (λ_ a w H=>?_);have H:=H.to [4,5,6,7,8,9,10,11,12,13,14] [_,_,_,_,_,_,_,_,_,_,_] [_,_,_,_,_,_,_,_] rfl rfl;refine k35 _ _ ?_;have⟨p6,h18,h⟩:=bs h;have J6:∀(y10:Value) a w,St M w0 168 [(61,ti (x_.Xa.length:Int)),(62,ti s5.1),(12,tv (m2 0)),(11,tptr ((rInt .u64).cs m41)),(10,tv (m1 0)),(8,tv (m0 2)),(7,tptr (rI.cs (x_.Xa.length:Int))),(6,tptr ((rPtr QS).cs t1)),(4,tptr ((rSl rS).cs t0.1))] [LB43,ownN rI 3 s1 y0,glo,own (rSn rI) 22 p0 (m0 1),box (rVal.cs (m0 1)) (m0 2),box (rVal.cs y0) (m1 0),own rI 3 p6 y10,box (rVal.cs y10) (m2 0)] a w->K8 a w:=by
     intro y10 a w H;refine k33 _ _ ?_;refine Qbd mixed [] H (λ_=>.o (QaI z1 .k)<|.q 0 rfl<|.nil _ _) (by kernel_rfl) (λ_ a w H=>?_);have H:=H.to [1,2,3,4,5,6,7,8,9] [_,_,_,_,_,_,_,_,_] [_,_,_,_,_,_,_,_] rfl rfl;exact k30 _ _ _ (sj h).symm ⟨y10,(H.pick [1,0,2,3,4,5,6,7,8]).Xk [6,0,1,2,3,4,5,7] rfl⟩
    replace h:=h18;clear h18;refine QgN 0 H rfl (λb9=>?_) (λb9=>?_)
    ·replace h:=QdJ b9 h;refine Qay (λ_ k36=>?_);have⟨t8,h19,u4,h20,h⟩:=bs2 h;refine Qbd mixed [v1 5 (λv0=>own rI 3 (s5.2++t8) v0),v1 5 (λv0=>box (rVal.cs v0) (m2 0))] H (λ_=>.u [7] rfl rfl (Qbm QbB z4)<|.u [5] rfl rfl (Qbm Qft z8)<|.q 3 rfl<|.u [4] rfl rfl (QaM ud68 Qif z1 z0 h19)<|.u [4] rfl rfl (Qea Qif z0 h19)<|.e [] [0] [8] rfl rfl rfl rfl (Qa3 (R:=rI) ud22 tok3 (leb rfl) z4 (.left z0) h20)<|.e [8] [7] [9] rfl rfl rfl rfl (QdL (R:=rI) (e:=3) (Ts:=(rVal.cs y9)) QbB z10 z0 (leb rfl))<|.nil _ _) (by kernel_rfl) (λm5 a w H=>?_);have H:=H.to [1,5,7,8,9,10,11,12,13,14,15,16] [_,_,_,_,_,_,_,_,_,_,_,_] [_,_,_,_,_,_,_,_] rfl rfl;refine k36 _ _ ?_;refine Qay (λ_ k37=>?_);have⟨t9,h21,h⟩:=bs h;refine Qbd mixed [] H (λ_=>.u [4] rfl rfl (Qbm Qft z8)<|.q 3 rfl<|.u [3] rfl rfl (QaM ud68 Qif z1 z0 h21)<|.u [3] rfl rfl (Qea Qif z0 h21)<|.o (Qpf ud22 z0)<|.nil _ _) (by kernel_rfl) (λ_ a w H=>?_);have H:=H.to [0,4,5,6,8,9,10,11,12,13,14,15,16] [_,_,_,_,_,_,_,_,_,_,_,_,_] [_,_,_,_,_,_,_,_] rfl rfl;refine k37 _ _ ?_;have⟨p7,h22,h⟩:=bs h;have J7:∀(y11:Value) a w,St M w0 168 [(61,ti (x_.Xa.length:Int)),(62,ti s5.1),(12,tv (m2 0)),(11,tptr ((rInt .u64).cs m41)),(10,tv (m1 0)),(8,tv (m0 2)),(7,tptr (rI.cs (x_.Xa.length:Int))),(6,tptr ((rPtr QS).cs t1)),(4,tptr ((rSl rS).cs t0.1))] [LB43,ownN rI 3 s1 y0,glo,own (rSn rI) 22 p0 (m0 1),box (rVal.cs (m0 1)) (m0 2),box (rVal.cs y0) (m1 0),own rI 3 p7 y11,box (rVal.cs y11) (m2 0)] a w->K8 a w:=by
      intro y11 a w H;obtain rfl:=sj h;exact J6 y11 _ _ (H.pick [0,1,2,3,4,5,6,7,8])
     replace h:=h22;clear h22;refine QgN 1 H rfl (λb10=>?_) (λb10=>?_)
     ·replace h:=QdJ b10 h;have⟨t10,h23,h⟩:=bs h;refine Qbd mixed [v1 3 (λv0=>own rI 3 t10 v0),v1 3 (λv0=>box (rVal.cs v0) (m2 0))] H (λ_=>.o (Q9 QjO z12)<|.o (Qgd ud25 z0)<|.o (QaI z0 .k)<|.m [] [8] rfl rfl rfl (Qkb (R:=rI) ud22 tok3 zok3 (leb rfl) z0 z0 h23)<|.e [8] [7] [9] rfl rfl rfl rfl (QdL (R:=rI) (e:=3) (Ts:=(rVal.cs (m5 5))) QbB z10 z0 (leb rfl))<|.nil _ _) (by kernel_rfl) (λm6 a w H=>?_);have H:=H.to [3,4,6,7,8,9,10,11,12,13,14,15,16] [_,_,_,_,_,_,_,_,_,_,_,_,_] [_,_,_,_,_,_,_,_,_] rfl rfl;obtain rfl:=sj h;exact J7 (m6 3) _ _ ((H.pick [4,5,6,7,8,9,10,11,12]).Xk [0,1,2,3,4,5,7,8] rfl)
     replace h:=QdK b10 h;refine QgO ?_;obtain rfl:=sj h;exact J7 (m5 5) _ _ (H.pick [4,5,6,7,8,9,10,11,12])
    replace h:=QdK b9 h;refine QgO ?_;obtain rfl:=sj h;exact J6 y9 _ _ ((H.pick [2,3,4,5,6,7,8,9,10]).Xk [1,2,3,4,5,6,0,7] rfl)
   replace h:=QdK b8 h;refine QiH ?_;exact J1 _ y9 _ _ (ho _ (sj h).symm) (H.pick [3,4,5,6,7,8,9])
  ·subst he;simp only at h;replace hpl:=hpm _ _ hpl;have H:=H.to [1,2,3,4,5] [_,_,_,_,_] [_,_,_,_,_,_] rfl rfl;refine k4 _ _ ?_;refine wp_seq_k (λ_ k38=>?_);replace H:St _ _ _ [_,_,_,_,_] [_,_,_,_,_,_] _ _:=(H.Xk [1,0,2,3,4,5] rfl).unN;have⟨t11,h24,h⟩:=bs h;refine wr mx [v0 (own rI 3 t11 y0)] H (λ_=>.u [5] rfl rfl (Qbm QbB z0)<|.e [] [0] [6] rfl rfl rfl rfl (QJ Quy (Qmy h24) (.cons (.of z0)<|.nil))<|.n) λ_ a w H=>?_;replace H:St _ _ _ [_,_,_] [_,_,_,_] _ _:=(H.pick [0,2,6]).Xk [0,1,4,5] rfl;refine k38 _ _ ?_;refine sr mx [] H (λ_=>.o (Qp .k)<|.n) λ_ a w H=>?_;replace H:St _ _ _ [_,_,_,_] [_,_,_,_,_] _ _:=(H.pick [0,1,2,3]).nil (rS) 9;refine wp_seq_k (λK9 k39=>?_);refine sr mx [] H (λ_=>.u [3] rfl rfl (Qbm QbB z2)<|.u [4] rfl rfl (Qdp ud22 z0)<|.o (Qar .k)<|.n) λ_ a w H=>?_;replace H:St _ _ _ [_,_,_,_,_,_] [_,_,_,_] _ _:=(H.pick [0,1,2,3,4,6]).Xk [0,1,2,4] rfl;have⟨e4,h25,h⟩:=bs h;have J8:∀(p8:List Str) (y12:Value) a w,p8=e4->St M w0 168 [(19,tv y12)] [own rS 9 p8 y12,objA D defO,glo] a w->K9 a w:=by
    intro p8 y12 a w he H;subst he;refine k39 _ _ ?_;refine sr mx [] H (λ_=>.q 0 rfl<|.o (Qp z0)<|.o (Qp .k)<|.n) λ_ a w H=>?_;have H:=H.to [0,1,2,3] [_,_,_,_] [_,_,_] rfl rfl;refine wp_ret ?_;replace H:St _ _ _ [_,_] [_,_] _ _:=(H.Xn 1 rfl).pick [0,3];obtain rfl:=sj h;exact QsH undef [] hpl H rfl (.tmp z0 (.tmp z1 .nil)) rfl rfl rfl
   refine wp_block ?_;refine QeH _ (λ(s6:Int×List Str) a w=>∃y13:Value,St M w0 168 [(153,tv y0),(154,ti (t11.length:Int)),(155,ti s6.1),(19,tv y13),(4,tptr ((rSl rS).cs t0.1))] [own rS 9 s6.2 y13,objA D defO,glo,own rI 3 t11 y0] a w) _ _ h25 ⟨(.slice none 0 0),H.pick [0,1,2,3,5]⟩ ?_;clear h;intro s6 o a w K10 hI h ho k40;obtain⟨y13,H⟩:=hI;refine sr mx [] H (λ_=>.o (QcD z2 z1)<|.n) λ_ a w H=>?_;have H:=H.t6_4 [0,1,2,3,4,5];refine wp_seq_k (λ_ k41=>?_);refine wi H h (λb11 h=>?_) (λb11 h=>?_)
   ·refine wp_skip (k41 _ _ ?_);refine wp_seq_k (λ_ k42=>?_);refine wp_block ?_;have⟨t12,h26,h⟩:=bs h;refine sr mx [] H (λ_=>.u [3] rfl rfl (QaM ud22 tok3 z1 z3 h26)<|.u [3] rfl rfl (Qea tok3 z0 h26)<|.o (Qp z0)<|.n) λ_ a w H=>?_;have H:=H.t6_4 [2,4,5,6,7,8];have⟨t13,h27,u5,h28,h⟩:=bs2 h;refine wr mx [v1 6 (λv0=>own rS 9 (s6.2++[t13]) v0)] H (λ_=>.q 4 rfl<|.o (Q9 QjO z6)<|.q 2 rfl<|.o (QcL ud25 tok9 z1 z0 h27)<|.o (Q9 tok9 z0)<|.o (Qak (R:=rS) (us:=[t13]) ud25 tok9 (.cons z0<|.nil _) rfl (leb rfl))<|.e [] [0] [4] rfl rfl rfl rfl (Qa3 (R:=rS) ud25 tok9 (leb rfl) z5 z0 h28)<|.ud (f:=λv=>tv v) 6 rfl [] rfl rfl (Qp z0)<|.n) λm7 a w H=>?_;have H:=H.t6_4 [6,7,9,10,11,12];refine k42 _ _ ?_;refine wr mx [] H (λ_=>.o (QaI z4 .k)<|.q 0 rfl<|.n) λ_ a w H=>?_;have H:=H.t6_4 [1,2,3,4,5,6];exact k40 _ _ _ (sj h).symm ⟨(m7 6),(H.pick [3,4,0,2,5]).Xk [3,0,1,2] rfl⟩
   refine wp_exit ?_;exact J8 _ y13 _ _ (ho _ (sj h).symm) ((H.pick [4]).Xk [0,1,2] rfl)
  subst he;simp only at h;cases h
 refine wp_block ?_;refine QeH _ (λ(s7:Int×List (List Int)) a w=>St M w0 168 [(44,ti (t2.length:Int)),(45,ti s7.1),(8,tv (m0 2)),(7,tptr (rI.cs (x_.Xa.length:Int))),(6,tptr ((rPtr QS).cs t1)),(4,tptr ((rSl rS).cs t0.1))] [glo,own (rSn rI) 22 s7.2 (m0 1),box (rVal.cs (m0 1)) (m0 2)] a w) _ _ h3 (H.pick [1,2,4,5,6,7]) ?_;clear h;intro s7 o a w K11 hI h ho k43;have H:=hI;clear hI;refine sr mx [] H (λ_=>.o (QcD z1 z0)<|.n) λ_ a w H=>?_;have H:=H.to [0,1,2,3,4,5,6] [_,_,_,_,_,_,_] [_,_,_] rfl rfl;refine wp_seq_k (λ_ k44=>?_);refine wi H h (λb12 h=>?_) (λb12 h=>?_)
 ·refine wp_skip (k44 _ _ ?_);refine wp_seq_k (λ_ k45=>?_);refine wp_block ?_;refine sr mx [] H (λ_=>.q 2 rfl<|.o (Qp z0)<|.n) λ_ a w H=>?_;have H:=H.to [1,3,4,5,6,7,8] [_,_,_,_,_,_,_] [_,_,_] rfl rfl;have⟨t14,h29,t15,h30,h⟩:=bs2 h;refine wr mx [v0 (own (rSn rI) 22 t15 (m0 1))] H (λ_=>.u [2] rfl rfl (Qbm Qft z3)<|.q 1 rfl<|.o (Q9 QjP z7)<|.q 3 rfl<|.o (QJ Quu (Qmd.ok h29) (.cons (.of z1)<|.cons (.of z0)<|.cons (.of (Fct.Xp .fnE (Qe2 QqH (λ_ _ hq=>Qno.ok hq))))<|.nil))<|.u [1] rfl rfl (Qia ud68 Qif z4 z3 h30)<|.e [] [1] [3] rfl rfl rfl rfl (Qji Qif z0 z1 h30)<|.n) λ_ a w H=>?_;have H:=H.to [0,7,8,9,10,11,12] [_,_,_,_,_,_,_] [_,_,_] rfl rfl;refine k45 _ _ ?_;refine wr mx [] H (λ_=>.o (QaI z2 .k)<|.q 0 rfl<|.n) λ_ a w H=>?_;have H:=H.to [1,2,3,4,5,6,7] [_,_,_,_,_,_,_] [_,_,_] rfl rfl;exact k43 _ _ _ (sj h).symm ((H.pick [2,0,3,4,5,6]).Xk [0,2,1] rfl)
 refine wp_exit ?_;exact J0 _ _ _ (ho _ (sj h).symm) (H.pick [3,4,5,6])
