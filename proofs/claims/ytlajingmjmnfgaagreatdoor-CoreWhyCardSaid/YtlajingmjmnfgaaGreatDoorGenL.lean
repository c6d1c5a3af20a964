/- The walk. No condition. -/
import Derived.Test.YtlajingmjmnfgaaGreatDoorGenK
set_option linter.all false
open Go.Proofs.Tryz Go.IntKind
namespace Go.Proofs.YtlajingmjmnfgaaGreatDoor
noncomputable section
open Go.Sim
set_option maxRecDepth 100000
set_option maxHeartbeats 4000000
def Qgj (n_:Int) (l_:(List QG)):Option ((List Int)×Int):=(Qgi n_ l_).bind λt0=>(if (t0 !=0)=true then (some (([]:List Int),t0)) else (Qm (λ(s0:Int)=>((if (decide (s0<=(i64.wrap (n_+1))))=true then (Qm (λ(s1:Int)=>((if (decide (s1<(l_.length:Int)))=true then (idx l_ s1).bind λt1=>(QaS n_ t1.A).bind λt2=>(QfP n_ l_ s1 t2 (i64.wrap (s0 - 1))).bind λt3=>(idx l_ s1).bind λt4=>(QaS n_ t4.B).bind λt5=>(idx l_ s1).bind λt6=>(idx t3 (i64.wrap (s0 - 1))).bind λt7=>(idx t7 t5).bind λt8=>(opt ((decide (t8>=1099511627776))==false) (idx t3 (i64.wrap (s0 - 1))) default).bind λt9=>(opt ((decide (t8>=1099511627776))==false) (idx t9 t5) default).bind λt10=>(if ((decide (t8>=1099511627776))||(decide ((i64.wrap (t6.N+t10))>=0)))=true then (some (.inl (i64.wrap (s1+1)))) else (Qm (λ(s2:Int×Int×Int×List Int)=>((if (decide (s2.1>=0))=true then (Qm (λ(s3:Int)=>((if (decide (s3<(l_.length:Int)))=true then (idx l_ s3).bind λt11=>(QaS n_ t11.B).bind λt12=>(idx l_ s3).bind λt13=>(QaS n_ t13.A).bind λt14=>(opt ((t14==s2.2.2.1)==true) (idx t3 s2.1) default).bind λt15=>(opt ((t14==s2.2.2.1)==true) (idx t15 t12) default).bind λt16=>(opt (((t14==s2.2.2.1)&&(decide (t16<1099511627776)))==true) (idx l_ s3) default).bind λt17=>(opt (((t14==s2.2.2.1)&&(decide (t16<1099511627776)))==true) (idx t3 s2.1) default).bind λt18=>(opt (((t14==s2.2.2.1)&&(decide (t16<1099511627776)))==true) (idx t18 t12) default).bind λt19=>(if (((t14==s2.2.2.1)&&(decide (t16<1099511627776)))&&(decide ((i64.wrap ((i64.wrap (s2.2.1+t17.N))+t19))<0)))=true then (rm (s2.2.2.2.length+[s3].length)).bind λ_=>(idx l_ s3).bind λt20=>(some (.inr (t12,(i64.wrap (s2.2.1+t20.N)),(s2.2.2.2++[s3])))) else (some (.inl (i64.wrap (s3+1))))) else (some (.inr (s2.2.2.1,s2.2.1,s2.2.2.2)))):Option ((Int)⊕((Int×Int×List Int))))) (i64.wrap (s1+1))).bind λp0=>(some (.inl ((i64.wrap (s2.1 - 1)),p0.2.1,p0.1,p0.2.2))) else (some (.inr s2.2.2.2))):Option ((Int×Int×Int×List Int)⊕((List Int))))) ((i64.wrap (s0 - 2)),t6.N,t5,[s1])).bind λp1=>(some (.inr (.inr ((0:Int),p1))))) else (some (.inr (.inl ())))):Option ((Int)⊕((Unit)⊕(Int×List Int))))) (0:Int)).bind λe0=>(match e0 with | .inl _=>(some (.inl (i64.wrap (s0+1)))) | .inr p2=>(some (.inr (.inr (p2.1,p2.2))))) else (some (.inr (.inl ())))):Option ((Int)⊕((Unit)⊕(Int×List Int))))) (2:Int)).bind λe1=>(match e1 with | .inl _=>(some (([]:List Int),(6:Int))) | .inr p3=>(some (p3.2,p3.1))))
instance QBA:Spc2 prog 99 Qgj (λn_ l_=>[ti n_,tsl Qae l_]) (λr=>ttup [tsl rI r.1,ti r.2]):=.mk λ{n_ l_ r} h=>by
 unfold Qgj at h
 refine Fe func99 ntmps99 λM0 M w0 hpl=>?_
 refine Qa [2,3] ?_
 have⟨_,_,h⟩:=bs h
 refine Qa [3,4,5] ?_
 refine tIfs h [1,2,3,4] (λ_ h=>?_) (λ_ h=>?_)
 ·refine Qa [1,2] ?_
  exact Qo h (·▸Ql hpl)
 refine Qf λK0 k0=>?_
 refine Qa [0,3,4] ?_
 have⟨e0,h0,h⟩:=bs h
 have J0:∀(p0:Unit),(.inl p0)=e0->To M w0 154 [] [] K0:=by
  intro p0 he;subst he;simp only at h;refine k0 <|Qa [0,1] ?_;exact Qo h (·▸Ql hpl)
 have J1:∀(p1:Int×List Int) (y0:Value),(.inr p1)=e0->To M w0 154 [(4,tv y0),(5,ti p1.1)] [own rI 3 p1.2 y0] (Ret prog f99 M0 [] w0 (λ_=>[]) (λ_=>ttup [tsl rI r.1,ti r.2]) .ret):=by
  intro p1 y0 he;subst he;simp only at h;refine Qad (by intro _ _ H;exact (H.Xn 0 rfl).pick [0,2]) ?_;obtain rfl:=sj h;exact Ql hpl
 refine Qj <|Qai h0 (λ(s0:Int)=>[(7,ti s0),(0,ti n_),(1,tsl Qae l_)]) (λ(s0:Int)=>[]) [0,1,2] ?_;clear h;intro s0 o K1 h ho k1;refine Qf λ_ k2=>Qa [3,4,5,6] ?_;refine Qn h (λ_ h=>?_) (λ_ h=>?_)
 ·refine Qq <|k2 <|Qf λK2 k3=>Qj <|Qa [0,2,3,4] ?_;have⟨e1,h1,h⟩:=bs h;have J2:∀(p2:Unit),(.inl p2)=e1->To M w0 154 [(7,ti s0),(0,ti n_),(1,tsl Qae l_)] [] K2:=by
   intro p2 he;subst he;simp only at h;refine k3 <|QL [2,3,4] ?_;exact Qu k1 ((sj h).symm) [0,1,2]
  have J3:∀(p3:Int×List Int) (y1:Value),(.inr p3)=e1->To M w0 154 [(4,tv y1),(5,ti p3.1)] [own rI 3 p3.2 y1] (Ret prog f99 M0 [] w0 (λ_=>[]) (λ_=>ttup [tsl rI r.1,ti r.2]) .ret):=by
   intro p3 y1 he;subst he;simp only at h;exact QV J1 y1 (ho _ (sj h).symm) [0,1]
  refine Qj <|Qai h1 (λ(s1:Int)=>[(8,ti s1),(7,ti s0),(0,ti n_),(1,tsl Qae l_)]) (λ(s1:Int)=>[]) [0,1,2,3] ?_;clear h;intro s1 o K3 h ho k4;refine Qf λ_ k5=>Qa [3,4,5,6,7] ?_;refine Qn h (λ_ h=>?_) (λ_ h=>?_)
  ·refine Qq <|k5 <|Qf λ_ k6=>Qj ?_;have⟨_,_,_,_,t0,_,h⟩:=bs3 h;refine Qa [13,15,16,17,18] ?_;have⟨_,_,_,_,h⟩:=bs2 h;refine Qa [7,8,9,10,11,12] ?_;have⟨_,_,h⟩:=bs h;refine Qa [5,6,7,8,9,10,11] ?_;have⟨_,_,_,_,_,_,_,_,h⟩:=bs4 h;refine tIfs h [21,22,23,24,25,26,27,28] (λ_ h=>?_) (λ_ h=>?_)
   ·refine QO <|k6 <|QL [2,7,8,9] ?_;exact Qu k4 ((sj h).symm) [0,1,2,3]
   refine QJ [v1 1 (λv0=>own rI 3 [s1] v0)] [2] [1,2,4,5,6,7,8,9,10] λm0=>?_;refine Qf λK4 k7=>Qa [2,3,4,5,6,7,8,10,11] ?_;have⟨e2,h2,h⟩:=bs h;have J4:∀(p4:List Int) (y2:Value),p4=e2->To M w0 154 [(12,tv y2)] [own rI 3 p4 y2] K4:=by
    intro p4 y2 he;subst he;refine k7 <|Qa [0,1,2,3] ?_;refine Qam ?_;exact QV J3 y2 (ho _ (sj h).symm) [1,2]
   refine Qj <|QaC h2 (λ(s2:Int×Int×Int×List Int) (y3:Value)=>[(13,ti s2.1),(12,tv y3),(11,ti s2.2.1),(10,ti s2.2.2.1),(9,tsl (rSl rI) t0),(8,ti s1),(0,ti n_),(1,tsl Qae l_)]) (λ(s2:Int×Int×Int×List Int) (y3:Value)=>[own rI 3 s2.2.2.2 y3]) (m0 1) [0,2,3,4,5,6,7,8] ?_;clear h;intro s2 y3 o K5 h ho k8;refine Qf λ_ k9=>Qa [1,2,3,4,5,6,7,8,9] ?_;refine Qn h (λ_ h=>?_) (λ_ h=>?_)
   ·refine Qq <|k9 <|Qf λK6 k10=>Qj <|Qa [2,4,5,6,7,8,9,10,11] ?_;have⟨e3,h3,h⟩:=bs h;have J5:∀(p5:Int×Int×List Int) (y4:Value),p5=e3->To M w0 154 [(10,ti p5.1),(11,ti p5.2.1),(12,tv y4),(13,ti s2.1),(9,tsl (rSl rI) t0),(8,ti s1),(0,ti n_),(1,tsl Qae l_)] [own rI 3 p5.2.2 y4] K6:=by
     intro p5 y4 he;subst he;refine k10 <|QL [2,3,4,5,6,7,8,9] ?_;exact QV k8 y4 ((sj h).symm) [0,3,2,1,4,5,6,7]
    refine Qj <|Qai h3 (λ(s3:Int)=>[(14,ti s3),(13,ti s2.1),(12,tv y3),(11,ti s2.2.1),(10,ti s2.2.2.1),(9,tsl (rSl rI) t0),(8,ti s1),(0,ti n_),(1,tsl Qae l_)]) (λ(s3:Int)=>[own rI 3 s2.2.2.2 y3]) [0,1,2,3,4,5,6,7,8] ?_;clear h;intro s3 o K7 h ho k11;refine Qf λ_ k12=>Qa [3,4,5,6,7,8,9,10,11,12] ?_;refine Qn h (λ_ h=>?_) (λ_ h=>?_)
    ·refine Qq <|k12 <|Qf λ_ k13=>Qj ?_;have⟨_,_,_,_,h⟩:=bs2 h;refine Qa [7,9,10,11,12,13,14,15,16,17] ?_;have⟨_,_,_,_,_,_,_,_,h⟩:=bs4 h;have⟨_,_,_,_,_,_,h⟩:=bs3 h;refine Qa [36,37,38,39,40,41,42,43,44,45,46] ?_;refine Qn h (λ_ h=>?_) (λ_ h=>?_)
     ·have⟨_,_,h⟩:=bs h;refine QJ [v1 3 (λv0=>own rI 3 (s2.2.2.2++[s3]) v0)] [4] [3,4,6,7,8,9,11,12,13,14] λm1=>?_;have⟨_,_,h⟩:=bs h;refine Qa [7,8,9,10,12,13,14,15,16] ?_;refine Qa [1,2,3,4,6,7,8,9,10] ?_;refine QO <|QV J5 (m1 3) (ho _ (sj h).symm) [0,1,3,4,5,6,7,8]
     refine Qq <|k13 <|QL [2,5,6,7,8,9,10,11,12] ?_;exact Qu k11 ((sj h).symm) [0,1,2,3,4,5,6,7,8]
    refine QO <|QV J5 y3 (ho _ (sj h).symm) [5,4,3,2,6,7,8,9]
   refine QO <|QV J4 y3 (ho _ (sj h).symm) [2]
  refine QO <|Qu J2 (ho _ (sj h).symm) [2,3,4]
 refine QO <|Qu J0 (ho _ (sj h).symm) []
def Qd8 (x_:Qb) (kind_:Int) (some_:(List QM)):Option (Int):=(Qm (λ(s0:Int×List QG)=>((if (decide (s0.1<(some_.length:Int)))=true then (idx some_ s0.1).bind λt0=>((if (t0.Xi==kind_)=true then (idx some_ s0.1).bind λt1=>(rm (s0.2.length+[t1.Xu].length)).bind λ_=>(some (s0.2++[t1.Xu])) else (some s0.2))).bind λp0=>(some (.inl ((i64.wrap (s0.1+1)),p0))) else (some (.inr s0.2))):Option ((Int×List QG)⊕((List QG))))) ((0:Int),([]:List QG))).bind λp1=>(idx x_.Xa kind_).bind λt2=>(Qgj (t2.Xb.length:Int) p1).bind λt3=>(if (t3.2 !=0)=true then (some (0:Int)) else (some (t3.1.length:Int)))
instance QoL:Spc3 prog 41 Qd8 (λx_ kind_ some_=>[Qc.ty x_,ti kind_,tsl QT some_]) ti:=.mk λ{x_ kind_ some_ r} h=>by
 unfold Qd8 at h
 refine Fe func41 ntmps41 λM0 M w0 hpl=>?_
 refine Qa [0,3,4] ?_
 refine Qa [0,1,2,3] ?_
 refine QY (λ_ _ H=>H.nil (Qae) 64) ?_
 refine Qf λK0 k0=>?_
 refine Qa [0,1,2,3,4] ?_
 have⟨e0,h0,h⟩:=bs h
 have J0:∀(p0:List QG) (y0:Value),p0=e0->To M w0 48 [(7,tv y0),(3,tptr (Qc.cs x_)),(1,ti kind_)] [own Qae 64 p0 y0] K0:=by
  intro p0 y0 he;subst he;refine k0 <|QY (by intro _ _ H;exact (H.Xn 0 rfl).pick [0,2,3]) ?_;have⟨_,_,_,_,h⟩:=bs2 h;refine Qa [12,13] ?_;refine tIfs h [1,2] (λ_ h=>?_) (λ_ h=>?_)
  ·refine Qa [0] ?_;exact Qo h (·▸Ql hpl)
  refine Qa [2] ?_;exact Qo h (·▸Ql hpl)
 refine Qj <|QaC h0 (λ(s0:Int×List QG) (y1:Value)=>[(8,ti s0.1),(7,tv y1),(3,tptr (Qc.cs x_)),(1,ti kind_),(2,tsl QT some_)]) (λ(s0:Int×List QG) (y1:Value)=>[own Qae 64 s0.2 y1]) (.slice none 0 0) [0,1,2,3,4] ?_;clear h;intro s0 y1 o K1 h ho k1;refine Qf λ_ k2=>Qa [3,4,5,6,7,8] ?_;refine Qn h (λ_ h=>?_) (λ_ h=>?_)
 ·refine Qq <|k2 <|Qf λK2 k3=>Qj ?_;have⟨_,_,h⟩:=bs h;refine Qa [6,8,9,10,11,12] ?_;have⟨p1,h1,h⟩:=bs h;have J1:∀(y2:Value),To M w0 48 [(7,tv y2),(8,ti s0.1),(3,tptr (Qc.cs x_)),(1,ti kind_),(2,tsl QT some_)] [own Qae 64 p1 y2] K2:=by
   intro y2;refine k3 <|QL [2,3,4,5,6] ?_;exact QV k1 y2 ((sj h).symm) [0,1,2,3,4]
  replace h:=h1;clear h1;refine Qn h (λ_ h=>?_) (λ_ h=>?_)
  ·have⟨t0,_,_,_,h⟩:=bs2 h;refine Qal [v1 7 (λv0=>own Qae 64 (s0.2++[t0.Xu]) v0)] [8] [7,8,10,11,12,13] λm0=>?_;obtain rfl:=sj h;exact QK (J1 (m0 7)) [1,2,3,4,5]
  refine Qq ?_;obtain rfl:=sj h;exact QK (J1 y1) [2,1,3,4,5]
 refine QO <|QV J0 y1 (ho _ (sj h).symm) [2,3,4]
def QfG (x_:Qb) (l_:(List Qv)) (low_:(List Int)):Option ((List Int)×Bool):=(rm (([]:List Int).length+low_.length)).bind λ_=>(Qm (λ(s0:Int×List Int)=>((if (decide (s0.1<(l_.length:Int)))=true then (idx l_ s0.1).bind λt0=>((if (decide (t0.B>=0))=true then (idx l_ s0.1).bind λt1=>(idx s0.2 t1.B).bind λt2=>(some t2) else (some (1:Int)))).bind λp0=>(idx l_ s0.1).bind λt3=>(idx s0.2 t3.A).bind λt4=>(idx l_ s0.1).bind λt5=>(jn (λ(p1:List Int)=>(some (.inl ((i64.wrap (s0.1+1)),p1)))) λj214=>(if t5.Xh=true then (idx l_ s0.1).bind λt6=>(idx l_ s0.1).bind λt7=>(setAt s0.2 t6.A (imax t4 (i64.wrap (t7.Mul * p0)))).bind λt8=>(j214 t8) else (opt ((decide (t4>0))==true) (idx l_ s0.1) default).bind λt9=>(opt (((decide (t4>0))&&(t9.Mul==0))==false) (idx l_ s0.1) default).bind λt10=>(opt ((((decide (t4>0))&&(t9.Mul==0))==false)&&((decide (t10.B<0))==true)) (idx l_ s0.1) default).bind λt11=>(if (((decide (t4>0))&&(t9.Mul==0))||((decide (t10.B<0))&&(decide (t4>t11.Mul))))=true then (some (.inr (.inr (([]:List Int),false)))) else (idx l_ s0.1).bind λt12=>((if ((decide (t12.B>=0))&&(decide (t4>0)))=true then (idx l_ s0.1).bind λt13=>(idx l_ s0.1).bind λt14=>(idx l_ s0.1).bind λt15=>(nz t15.Mul).bind λ_=>(setAt s0.2 t13.B (imax p0 (i64.wrap (Int.tdiv (i64.wrap ((i64.wrap (t4+t14.Mul)) - 1)) t15.Mul)))).bind λt16=>(some t16) else (some s0.2))).bind λp2=>(j214 p2)))) else (some (.inr (.inl s0.2)))):Option ((Int×List Int)⊕((List Int)⊕((List Int)×Bool))))) ((0:Int),(([]:List Int)++low_))).bind λe0=>(match e0 with | .inl p3=>(Qm (λ(s1:Int×List Int)=>((if (decide (s1.1<(x_.Xa.length:Int)))=true then (Qm (λ(s2:Int×List Int)=>((idx x_.Xa s1.1).bind λt17=>(if (decide (s2.1<(t17.Xb.length:Int)))=true then (idx x_.Xa s1.1).bind λt18=>(idx t18.Xb s2.1).bind λt19=>(opt ((t19.Xi==1)==true) (idx s2.2 s1.1) default).bind λt20=>((if ((t19.Xi==1)&&(decide (t20>0)))=true then (Qfb x_ s1.1 s2.1).bind λt21=>(idx s2.2 t21).bind λt22=>(setAt s2.2 t21 (imax t22 1)).bind λt23=>(some t23) else (some s2.2))).bind λp4=>(some (.inl ((i64.wrap (s2.1+1)),p4))) else (some (.inr s2.2))):Option ((Int×List Int)⊕((List Int))))) ((0:Int),s1.2)).bind λp5=>(some (.inl ((i64.wrap (s1.1+1)),p5))) else (some (.inr s1.2))):Option ((Int×List Int)⊕((List Int))))) ((0:Int),p3)).bind λp6=>(some (p6,true)) | .inr p7=>(some (p7.1,p7.2)))
instance Qy7:Spc3 prog 100 QfG (λx_ l_ low_=>[Qc.ty x_,tsl QD l_,tsl rI low_]) (λr=>ttup [tsl rI r.1,tb r.2]):=.mk λ{x_ l_ low_ r} h=>by
 unfold QfG at h
 refine Fe func100 ntmps100 λM0 M w0 hpl=>?_
 refine Qa [0,4,5] ?_
 have⟨_,_,h⟩:=bs h
 refine QJ [v1 0 (λv0=>own rI 3 ([]:List Int) v0),v1 2 (λv0=>own rI 3 (([]:List Int)++low_) v0)] [1,3] [2,3,4,5] λm0=>?_
 refine Qf λK0 k0=>?_
 refine Qa [0,1,2,3,4] ?_
 have⟨e0,h0,h⟩:=bs h
 have J0:∀(p0:List Int),(.inl p0)=e0->To M w0 176 [(8,tv (m0 2)),(3,tptr (Qc.cs x_))] [own rI 3 p0 (m0 2)] K0:=by
  intro p0 he;subst he;simp only at h;refine k0 <|Qf λK1 k1=>Qa [0,1,2] ?_;have⟨e1,h1,h⟩:=bs h;have J1:∀(p1:List Int),p1=e1->To M w0 176 [(8,tv (m0 2))] [own rI 3 p1 (m0 2)] K1:=by
   intro p1 he;subst he;refine k1 <|Qa [0,1,2,3] ?_;refine Qam ?_;refine Qad (by intro _ _ H;exact (H.Xn 1 rfl).pick [0,3]) ?_;obtain rfl:=sj h;exact Ql hpl
  refine Qj <|Qai h1 (λ(s0:Int×List Int)=>[(12,ti s0.1),(8,tv (m0 2)),(3,tptr (Qc.cs x_))]) (λ(s0:Int×List Int)=>[own rI 3 s0.2 (m0 2)]) [0,1,2] ?_;clear h;intro s0 o K2 h ho k2;refine Qf λ_ k3=>Qa [4,5,6,7] ?_;refine Qn h (λ_ h=>?_) (λ_ h=>?_)
  ·refine Qq <|k3 <|Qf λK3 k4=>Qj <|Qa [0,2,3,4] ?_;have⟨e2,h2,h⟩:=bs h;have J2:∀(p2:List Int),p2=e2->To M w0 176 [(12,ti s0.1),(8,tv (m0 2)),(3,tptr (Qc.cs x_))] [own rI 3 p2 (m0 2)] K3:=by
    intro p2 he;subst he;refine k4 <|QL [2,3,4] ?_;exact Qu k2 ((sj h).symm) [0,1,2]
   refine Qj <|Qai h2 (λ(s1:Int×List Int)=>[(13,ti s1.1),(12,ti s0.1),(8,tv (m0 2)),(3,tptr (Qc.cs x_))]) (λ(s1:Int×List Int)=>[own rI 3 s1.2 (m0 2)]) [0,1,2,3] ?_;clear h;intro s1 o K4 h ho k5;refine Qf λ_ k6=>?_;have⟨_,_,h⟩:=bs h;refine Qa [8,9,10,11,12] ?_;refine Qn h (λ_ h=>?_) (λ_ h=>?_)
   ·refine Qq <|k6 <|Qf λK5 k7=>Qj ?_;have⟨_,_,_,_,_,_,h⟩:=bs3 h;refine Qa [17,19,20,21,22] ?_;have⟨p3,h3,h⟩:=bs h;have J3:To M w0 176 [(13,ti s1.1),(12,ti s0.1),(8,tv (m0 2)),(3,tptr (Qc.cs x_))] [own rI 3 p3 (m0 2)] K5:=by
     refine k7 <|QL [2,3,4,5] ?_;exact Qu k5 ((sj h).symm) [0,1,2,3]
    replace h:=h3;clear h3;refine Qn h (λ_ h=>?_) (λ_ h=>?_)
    ·have⟨_,_,h⟩:=bs h;refine Qa [4,6,7,8,9] ?_;have⟨_,_,t0,_,h⟩:=bs2 h;refine Qal [v0 (own rI 3 t0 (m0 2))] [9] [0,2,9,10,11,12] λm1=>?_;obtain rfl:=sj h;exact QK J3 [2,3,4,5]
    refine Qq ?_;obtain rfl:=sj h;exact QK J3 [1,2,3,4]
   refine QO <|Qu J2 (ho _ (sj h).symm) [2,3,4]
  refine QO <|Qu J1 (ho _ (sj h).symm) [2]
 have J4:∀(p4:(List Int)×Bool),(.inr p4)=e0->To M w0 176 [(6,tsl rI p4.1),(7,tb p4.2)] [] (Ret prog f100 M0 [] w0 (λ_=>[]) (λ_=>ttup [tsl rI r.1,tb r.2]) .ret):=by
  intro p4 he;subst he;simp only at h;obtain rfl:=sj h;exact Ql hpl
 refine Qj <|Qai h0 (λ(s2:Int×List Int)=>[(9,ti s2.1),(8,tv (m0 2)),(3,tptr (Qc.cs x_)),(1,tsl QD l_)]) (λ(s2:Int×List Int)=>[own rI 3 s2.2 (m0 2)]) [0,2,3,4] ?_;clear h;intro s2 o K6 h ho k8;refine Qf λ_ k9=>Qa [3,4,5,6,7] ?_;refine Qn h (λ_ h=>?_) (λ_ h=>?_)
 ·refine Qq <|k9 <|Qf λK7 k10=>Qj <|Qa [0,2,3,4,5] ?_;refine Qf λK8 k11=>?_;have⟨_,_,h⟩:=bs h;refine Qa [5,6,7,8,9,10] ?_;have⟨p5,h4,h⟩:=bs h;have J5:To M w0 176 [(10,ti p5),(9,ti s2.1),(8,tv (m0 2)),(3,tptr (Qc.cs x_)),(1,tsl QD l_)] [own rI 3 s2.2 (m0 2)] K8:=by
   refine k11 ?_;have⟨_,_,_,_,h⟩:=bs2 h;refine Qa [0,8,9,10,11,12,13] ?_;have⟨_,_,h⟩:=bs h;refine Qa [4,5,6,7,8,9,10,11] ?_;obtain⟨j214,hj214,h⟩:=QiO h;have J6:∀(p6:List Int),j214 p6=some o->To M w0 176 [(9,ti s2.1),(8,tv (m0 2)),(3,tptr (Qc.cs x_)),(1,tsl QD l_)] [own rI 3 p6 (m0 2)] K7:=by
    intro p6 h;rw[hj214] at h;clear hj214;refine k10 <|QL [2,3,4,5] ?_;exact Qu k8 ((sj h).symm) [0,1,2,3]
   clear hj214;refine Qn h (λ_ h=>?_) (λ_ h=>?_)
   ·have⟨_,h5,h⟩:=bs h;replace h:=bk h5 h;have⟨t1,_,h⟩:=bs h;refine Qal [v0 (own rI 3 t1 (m0 2))] [17] [0,17,20,21,22,23] λm2=>?_;exact Qu J6 h [2,3,4,5]
   have⟨_,_,_,_,_,_,h⟩:=bs3 h;refine Qa [26,28,29,30,31,32,33,34] ?_;refine Qn h (λ_ h=>?_) (λ_ h=>?_)
   ·refine Qa [0,1,3,7] ?_;refine Qam ?_;refine Qad (λ_ _ H=>(H.pick [0,1]).Xk [] rfl) ?_;exact Qu J4 (ho _ (sj h).symm) [0,1]
   have⟨_,_,h⟩:=bs h;refine Qa [9,11,12,13,14,15,16,17] ?_;have⟨p7,h6,h⟩:=bs h;have J7:To M w0 176 [(9,ti s2.1),(8,tv (m0 2)),(3,tptr (Qc.cs x_)),(1,tsl QD l_)] [own rI 3 p7 (m0 2)] K7:=by
    exact Qu J6 h [0,1,2,3]
   replace h:=h6;clear h6;refine Qn h (λ_ h=>?_) (λ_ h=>?_)
   ·have⟨_,h7,h⟩:=bs h;replace h:=bk h7 h;replace h:=bk h7 h;have⟨_,_,t2,_,h⟩:=bs2 h;refine Qal [v0 (own rI 3 t2 (m0 2))] [24] [0,24,27,28,29,30] λm3=>?_;obtain rfl:=sj h;exact QK J7 [2,3,4,5]
   refine Qq ?_;obtain rfl:=sj h;exact QK J7 [4,5,6,7]
  replace h:=h4;clear h4;refine Qn h (λ_ h=>?_) (λ_ h=>?_)
  ·have⟨_,_,_,_,h⟩:=bs2 h;refine QL [0,8,10,11,12,13] ?_;obtain rfl:=sj h;exact QK J5 [1,2,3,4,5]
  refine Qq ?_;obtain rfl:=sj h;exact QK J5 [1,2,3,4,5]
 refine QO <|Qu J0 (ho _ (sj h).symm) [2,3]
def Qer (a_:(List Int)) (b_:(List Int)):Option (Bool):=(if ((a_.length:Int) !=(b_.length:Int))=true then (some false) else (Qm (λ(s0:Int)=>((if (decide (s0<(a_.length:Int)))=true then (idx a_ s0).bind λt0=>(idx b_ s0).bind λt1=>(if (t0 !=t1)=true then (some (.inr (.inr false))) else (some (.inl (i64.wrap (s0+1))))) else (some (.inr (.inl ())))):Option ((Int)⊕((Unit)⊕(Bool))))) (0:Int)).bind λe0=>(match e0 with | .inl _=>(some true) | .inr p0=>(some p0)))
instance Qw0:Spc2 prog 101 Qer (λa_ b_=>[tsl rI a_,tsl rI b_]) tb:=.mk λ{a_ b_ r} h=>by
 unfold Qer at h
 refine Fe func101 ntmps101 λM0 M w0 hpl=>?_
 refine Qa [1,2] ?_
 refine tIfs h [4,5,6] (λ_ h=>?_) (λ_ h=>?_)
 ·refine Qa [0] ?_
  exact Qo h (·▸Ql hpl)
 refine Qf λK0 k0=>?_
 refine Qa [0,2,3] ?_
 have⟨e0,h0,h⟩:=bs h
 have J0:∀(p0:Unit),(.inl p0)=e0->To M w0 26 [] [] K0:=by
  intro p0 he;subst he;simp only at h;refine k0 <|Qa [0] ?_;exact Qo h (·▸Ql hpl)
 have J1:∀(p1:Bool),(.inr p1)=e0->To M w0 26 [(4,tb p1)] [] (Ret prog f101 M0 [] w0 (λ_=>[]) (λ_=>tb r) .ret):=by
  intro p1 he;subst he;simp only at h;obtain rfl:=sj h;exact Ql hpl
 refine Qj <|Qai h0 (λ(s0:Int)=>[(5,ti s0),(0,tsl rI a_),(1,tsl rI b_)]) (λ(s0:Int)=>[]) [0,1,2] ?_;clear h;intro s0 o K1 h ho k1;refine Qf λ_ k2=>Qa [3,4,5,6] ?_;refine Qn h (λ_ h=>?_) (λ_ h=>?_)
 ·refine Qq <|k2 <|Qf λ_ k3=>Qj ?_;have⟨_,_,_,_,h⟩:=bs2 h;refine Qa [8,10,11,12] ?_;refine Qn h (λ_ h=>?_) (λ_ h=>?_)
  ·refine Qa [0] ?_;refine Qam ?_;exact Qu J1 (ho _ (sj h).symm) [0]
  refine Qq <|k3 <|QL [2,4,5] ?_;exact Qu k1 ((sj h).symm) [0,1,2]
 refine QO <|Qu J0 (ho _ (sj h).symm) []
def Qbs (x_:Qb) (l_:(List Qv)) (empty_:(List Bool)):Option (Bool):=(mk (x_.Xa.length:Int) (0:Int)).bind λt0=>(Qm (λ(s0:(List Int))=>((QfG x_ l_ s0).bind λt1=>(if (!t1.2)=true then (some (.inr false)) else (Qm (λ(s1:Int)=>((if (decide (s1<(t1.1.length:Int)))=true then (idx t1.1 s1).bind λt2=>(opt ((decide (t2>65536))==false) (idx t1.1 s1) default).bind λt3=>(opt (((decide (t2>65536))==false)&&((decide (t3>0))==true)) (idx empty_ s1) default).bind λt4=>(if ((decide (t2>65536))||((decide (t3>0))&&t4))=true then (some (.inr (.inr false))) else (some (.inl (i64.wrap (s1+1))))) else (some (.inr (.inl ())))):Option ((Int)⊕((Unit)⊕(Bool))))) (0:Int)).bind λe0=>(match e0 with | .inl _=>(Qer s0 t1.1).bind λt5=>(if t5=true then (some (.inr true)) else (some (.inl t1.1))) | .inr p0=>(some (.inr p0)))):Option (((List Int))⊕((Bool))))) t0).bind λp1=>(some p1)
instance QgI:Spc3 prog 42 Qbs (λx_ l_ empty_=>[Qc.ty x_,tsl QD l_,tsl Qau empty_]) tb:=.mk λ{x_ l_ empty_ r} h=>by
 unfold Qbs at h
 refine Fe func42 ntmps42 λM0 M w0 hpl=>?_
 refine Qa [0,3,4] ?_
 have⟨t0,h0,h⟩:=bs h
 intro a w H
 refine sr mx [] H (λ_=>.o (Q6 Qdo z0)<|.o (Q5 (u:=x_.Xa) Qku z0 rfl)<|.o (QeM ud29 z0)<|.o (Qzf (R:=rI) ud22 tok3 zok3 (leb rfl) z0 z0 h0)<|.o (Qr z0)<|.n) λ_ a w H=>?_
 have H:=H.t4_0 [4,5,6,7]
 refine Q2 H ?_
 have⟨e0,h1,h⟩:=bs h
 have J0:∀(p0:Bool),p0=e0->To M w0 52 [(6,tb p0)] [] (Ret prog f42 M0 [] w0 (λ_=>[]) (λ_=>tb r) .ret):=by
  intro p0 he;subst he;obtain rfl:=sj h;exact Ql hpl
 refine Qj <|Qai h1 (λ(s0:(List Int))=>[(7,tsl rI s0),(3,tptr (Qc.cs x_)),(1,tsl QD l_),(2,tsl Qau empty_)]) (λ(s0:(List Int))=>[]) [0,1,2,3] ?_;clear h;intro s0 o K0 h ho k0;refine Qj ?_;have⟨t1,_,h⟩:=bs h;refine Qa [7,8,9,10,11,12] ?_;refine tIfs h [1,2,4,5,6,7] (λ_ h=>?_) (λ_ h=>?_)
 ·refine Qa [0] ?_;refine Qam ?_;exact Qu J0 (ho _ (sj h).symm) [0]
 refine Qf λK1 k1=>Qa [0,2,3,4,5,6] ?_;have⟨e1,h2,h⟩:=bs h;have J1:∀(p1:Unit),(.inl p1)=e1->To M w0 52 [(8,tsl rI t1.1),(7,tsl rI s0),(3,tptr (Qc.cs x_)),(1,tsl QD l_),(2,tsl Qau empty_)] [] K1:=by
  intro p1 he;subst he;simp only at h;refine k1 ?_;have⟨_,_,h⟩:=bs h;refine tIfs h [2,3,5,6,7] (λ_ h=>?_) (λ_ h=>?_)
  ·refine Qa [0] ?_;refine Qam ?_;exact Qu J0 (ho _ (sj h).symm) [0]
  refine QL [1,4,5,6] ?_;exact Qu k0 ((sj h).symm) [0,1,2,3]
 have J2:∀(p2:Bool),(.inr p2)=e1->To M w0 52 [(6,tb p2)] [] (Ret prog f42 M0 [] w0 (λ_=>[]) (λ_=>tb r) .ret):=by
  intro p2 he;subst he;simp only at h;exact Qu J0 (ho _ (sj h).symm) [0]
 refine Qj <|Qai h2 (λ(s1:Int)=>[(10,ti s1),(8,tsl rI t1.1),(7,tsl rI s0),(3,tptr (Qc.cs x_)),(1,tsl QD l_),(2,tsl Qau empty_)]) (λ(s1:Int)=>[]) [0,1,2,3,4,5] ?_;clear h;intro s1 o K2 h ho k2;refine Qf λ_ k3=>Qa [3,4,5,6,7,8,9] ?_;refine Qn h (λ_ h=>?_) (λ_ h=>?_)
 ·refine Qq <|k3 <|Qf λ_ k4=>Qj ?_;have⟨_,_,_,_,_,_,h⟩:=bs3 h;refine Qa [17,19,20,21,22,23,24] ?_;refine Qn h (λ_ h=>?_) (λ_ h=>?_)
  ·refine Qa [0] ?_;refine Qam ?_;exact Qu J2 (ho _ (sj h).symm) [0]
  refine Qq <|k4 <|QL [2,4,5,6,7,8] ?_;exact Qu k2 ((sj h).symm) [0,1,2,3,4,5]
 refine QO <|Qu J1 (ho _ (sj h).symm) [2,3,4,5,6]
def QfH (x_:Qb) (l_:(List Qv)) (empty_:(List Bool)) (many_:Int):Option (Int):=(Qm (λ(s0:Int×Int)=>((nn (u64.wrap (l_.length:Int))).bind λ_=>(if (decide (s0.1<(ishl .i64 (1:Int) (u64.wrap (l_.length:Int)))))=true then (Qm (λ(s1:Int×List Qv)=>((if (decide (s1.1<(l_.length:Int)))=true then (nn (u64.wrap s1.1)).bind λ_=>((if ((Int.tmod (ishr .i64 s0.1 (u64.wrap s1.1)) (2:Int))==1)=true then (idx l_ s1.1).bind λt0=>(rm (s1.2.length+[t0].length)).bind λ_=>(some (s1.2++[t0])) else (some s1.2))).bind λp0=>(some (.inl ((i64.wrap (s1.1+1)),p0))) else (some (.inr s1.2))):Option ((Int×List Qv)⊕((List Qv))))) ((0:Int),([]:List Qv))).bind λp1=>(opt ((decide ((p1.length:Int)<s0.2))==true) (Qbs x_ p1 empty_) default).bind λt1=>((if ((decide ((p1.length:Int)<s0.2))&&(!t1))=true then (some (p1.length:Int)) else (some s0.2))).bind λp2=>(some (.inl ((i64.wrap (s0.1+1)),p2))) else (some (.inr s0.2))):Option ((Int×Int)⊕((Int))))) ((0:Int),many_)).bind λp3=>(some p3)
instance QnY:Spc4 prog 43 QfH (λx_ l_ empty_ many_=>[Qc.ty x_,tsl QD l_,tsl Qau empty_,ti many_]) ti:=.mk λ{x_ l_ empty_ many_ r} h=>by
 unfold QfH at h
 refine Fe func43 ntmps43 λM0 M w0 hpl=>?_
 refine Qa [0,3,4,5] ?_
 refine Qf λK0 k0=>?_
 refine Qa [0,1,2,3,4] ?_
 have⟨e0,h0,h⟩:=bs h
 have J0:∀(p0:Int),p0=e0->To M w0 53 [(3,ti p0)] [] K0:=by
  intro p0 he;subst he;refine k0 <|Qa [1] ?_;exact Qo h (·▸Ql hpl)
 refine Qj <|Qai h0 (λ(s0:Int×Int)=>[(9,ti s0.1),(4,tptr (Qc.cs x_)),(1,tsl QD l_),(2,tsl Qau empty_),(3,ti s0.2)]) (λ(s0:Int×Int)=>[]) [0,1,2,3,4] ?_;clear h;intro s0 o K1 h ho k1;refine Qf λ_ k2=>?_;have⟨_,h1,h⟩:=bs h;intro a w H;refine sr mx [] H (λ_=>.q 0 rfl<|.q 3 rfl<|.o (QeM underlying90 z0)<|.o (QcZ ud3 ud86 z0)<|.o (Qot .k z0 (Qix h1))<|.o (Qck z4 z0)<|.n) λ_ a w H=>?_;have H:=H.to [5,6,7,8,9,10] [_,_,_,_,_,_] [] rfl rfl;refine Q2 H ?_;refine Qn h (λ_ h=>?_) (λ_ h=>?_)
 ·refine Qq <|k2 <|Qf λK2 k3=>Qj <|Qa [0,2,3,4,5,6] ?_;refine QY (λ_ _ H=>H.nil (QD) 183) ?_;refine Qf λK3 k4=>Qa [0,1,2,3,4,5,6] ?_;have⟨e1,h2,h⟩:=bs h;have J1:∀(p1:List Qv) (y0:Value),p1=e1->To M w0 53 [(10,tv y0),(9,ti s0.1),(4,tptr (Qc.cs x_)),(1,tsl QD l_),(2,tsl Qau empty_),(3,ti s0.2)] [own QD 183 p1 y0] K3:=by
   intro p1 y0 he;subst he;refine k4 ?_;have⟨t0,h3,h⟩:=bs h;intro a w H;refine sr mx [] H (λ_=>.q 0 rfl<|.u [0] rfl rfl (Qdl underlying90 z0)<|.q 7 rfl<|.o (Qck z1 z0)<|.q 0 rfl<|.g rfl rfl bq0 (λ_=>Qaa Qbk z7)<|.g rfl rfl bq1 (λ_=>Qaj z6)<|.g rfl rfl bq2 (λ_=>Qaj z11)<|.gu [0] rfl rfl rfl bq3 (λhc=>QcU [own QD 183 p1 y0] QnN (QgI.ok (Qeg h3 hc)) (.cons (.of (.cond z2 hc))<|.cons (.own (.cond z1 hc) (.head _))<|.cons (.of (.cond z0 hc))<|.nil) (λ_=>Qci) (λ_=>QeO (x:=undef)))<|.g rfl rfl bq4 (λhc=>Qi3 (.cond z0 hc))<|.o (QcY z5 (λhp=>(.cond z0 (beqT hp))))<|.n) λ_ a w H=>?_;have H:=H.to [0,10,11,12,13,14,15,16] [_,_,_,_,_,_,_,_] [_] rfl rfl;refine Q2 H ?_;have⟨p2,h4,h⟩:=bs h;have J2:To M w0 53 [(3,ti p2),(9,ti s0.1),(4,tptr (Qc.cs x_)),(1,tsl QD l_),(2,tsl Qau empty_)] [] K2:=by
    refine k3 <|QL [2,3,4,5,6] ?_;exact Qu k1 ((sj h).symm) [0,2,3,4,1]
   replace h:=h4;clear h4;refine Qel 1 (λb0=>?_) (λb0=>?_)
   ·replace h:=QcI b0 h;refine QL [0,2,3,5,6,7,8,9] ?_;obtain rfl:=sj h;refine Qad (λ_ _ H=>(H.pick [1,4,5,6,7]).Xk [] rfl) ?_;exact QK J2 [0,1,2,3,4]
   replace h:=QcJ b0 h;refine Qq ?_;obtain rfl:=sj h;refine Qad (λ_ _ H=>(H.pick [7,3,4,5,6]).Xk [] rfl) ?_;exact QK J2 [0,1,2,3,4]
  refine Qj <|QaC h2 (λ(s1:Int×List Qv) (y1:Value)=>[(11,ti s1.1),(10,tv y1),(9,ti s0.1),(4,tptr (Qc.cs x_)),(1,tsl QD l_),(2,tsl Qau empty_),(3,ti s0.2)]) (λ(s1:Int×List Qv) (y1:Value)=>[own QD 183 s1.2 y1]) (.slice none 0 0) [0,1,2,3,4,5,6] ?_;clear h;intro s1 y1 o K4 h ho k5;refine Qf λ_ k6=>Qa [3,4,5,6,7,8,9,10] ?_;refine Qn h (λ_ h=>?_) (λ_ h=>?_)
  ·refine Qq <|k6 <|Qf λK5 k7=>Qj ?_;have⟨_,h5,h⟩:=bs h;intro a w H;refine sr mx [] H (λ_=>.q 3 rfl<|.q 2 rfl<|.o (QcZ ud3 ud86 z0)<|.o (QbC z2 z0 (Qix h5))<|.o (Qnn z0 .k (by decide))<|.o (QcG z0 .k)<|.n) λ_ a w H=>?_;have H:=H.to [5,7,8,9,10,11,12,13] [_,_,_,_,_,_,_,_] [_] rfl rfl;refine Q2 H ?_;have⟨p3,h6,h⟩:=bs h;have J3:∀(y2:Value),To M w0 53 [(10,tv y2),(11,ti s1.1),(9,ti s0.1),(4,tptr (Qc.cs x_)),(1,tsl QD l_),(2,tsl Qau empty_),(3,ti s0.2)] [own QD 183 p3 y2] K5:=by
    intro y2;refine k7 <|QL [2,3,4,5,6,7,8] ?_;exact QV k5 y2 ((sj h).symm) [0,1,2,3,4,5,6]
   replace h:=h6;clear h6;refine Qn h (λ_ h=>?_) (λ_ h=>?_)
   ·have⟨t1,_,_,_,h⟩:=bs2 h;refine Qal [v1 6 (λv0=>own QD 183 (s1.2++[t1]) v0)] [7] [6,7,9,10,11,12,13,14] λm0=>?_;obtain rfl:=sj h;exact QK (J3 (m0 6)) [1,2,3,4,5,6,7]
   refine Qq ?_;obtain rfl:=sj h;exact QK (J3 y1) [2,1,3,4,5,6,7]
  refine QO <|QV J1 y1 (ho _ (sj h).symm) [2,3,4,5,6,7]
 refine QO <|Qu J0 (ho _ (sj h).symm) [5]
def QgU (x_:Qb):Option (Int×Int):=(QdR x_).bind λt0=>(if (t0 !=0)=true then (some ((0:Int),t0)) else (QcV x_).bind λt1=>(if (decide ((t1.1.length:Int)>16))=true then (some ((0:Int),(4:Int))) else (Qd7 x_).bind λt2=>(mk (x_.Xa.length:Int) false).bind λt3=>(Qm (λ(s0:Int×List Int×List Bool)=>((if (decide (s0.1<(x_.Xa.length:Int)))=true then (Qd8 x_ s0.1 t2).bind λt4=>(rm (s0.2.1.length+[t4].length)).bind λ_=>(idx (s0.2.1++[t4]) s0.1).bind λt5=>(setAt s0.2.2 s0.1 (decide (t5>0))).bind λt6=>(some (.inl ((i64.wrap (s0.1+1)),(s0.2.1++[t4]),t6))) else (some (.inr (s0.2.1,s0.2.2)))):Option ((Int×List Int×List Bool)⊕((List Int×List Bool))))) ((0:Int),([]:List Int),t3)).bind λp0=>(Qbs x_ t1.1 p0.2).bind λt7=>(if t7=true then (some ((0:Int),(6:Int))) else (Qm (λ(s1:Int×Int)=>((nn (u64.wrap (x_.Xa.length:Int))).bind λ_=>(if (decide (s1.1<(ishl .i64 (1:Int) (u64.wrap (x_.Xa.length:Int)))))=true then (mk (x_.Xa.length:Int) false).bind λt8=>(Qm (λ(s2:Int×Bool×Int×List Bool)=>((if (decide (s2.1<(x_.Xa.length:Int)))=true then (nn (u64.wrap s2.1)).bind λ_=>((if ((Int.tmod (ishr .i64 s1.1 (u64.wrap s2.1)) (2:Int))==1)=true then (setAt s2.2.2.2 s2.1 true).bind λt9=>(idx p0.1 s2.1).bind λt10=>(opt (s2.2.1==true) (idx p0.2 s2.1) default).bind λt11=>(some ((s2.2.1&&t11),(i64.wrap (s2.2.2.1+t10)),t9)) else (some (s2.2.1,s2.2.2.1,s2.2.2.2)))).bind λp1=>(some (.inl ((i64.wrap (s2.1+1)),p1.1,p1.2.1,p1.2.2))) else (some (.inr (s2.2.1,s2.2.2.1,s2.2.2.2)))):Option ((Int×Bool×Int×List Bool)⊕((Bool×Int×List Bool))))) ((0:Int),true,(0:Int),t8)).bind λp2=>((if (p2.1&&(decide (p2.2.1<s1.2)))=true then (QfH x_ t1.1 p2.2.2 (i64.wrap (s1.2 - p2.2.1))).bind λt12=>(some (i64.wrap (p2.2.1+t12))) else (some s1.2))).bind λp3=>(some (.inl ((i64.wrap (s1.1+1)),p3))) else (some (.inr s1.2))):Option ((Int×Int)⊕((Int))))) ((0:Int),(i64.wrap ((i64.wrap ((t1.1.length:Int)+(t2.length:Int)))+1)))).bind λp4=>(some (p4,(0:Int))))))
instance QCp:Spc1 prog 10 QgU (λx_=>[Qc.ty x_]) (λr=>ttup [ti r.1,ti r.2]):=.mk λ{x_ r} h=>by
 unfold QgU at h
 refine Fe func10 ntmps10 λM0 M w0 hpl=>?_
 refine Qa [0] ?_
 have⟨_,_,h⟩:=bs h
 refine Qa [2,3] ?_
 refine tIfs h [1,2,3] (λ_ h=>?_) (λ_ h=>?_)
 ·refine Qa [1,2] ?_
  exact Qo h (·▸Ql hpl)
 have⟨t0,h0,h⟩:=bs h
 intro a w H
 refine sr mx [] H (λ_=>.o (Qaa Qbk z2)<|.o (QN Qls ((QfY.ok h0).ro (T':=ttup [tsl QD t0.1,tsl rS t0.2.1,ti t0.2.2]) Ql6) (.cons (.of z0)<|.nil))<|.q 0 rfl<|.o (Qag z0 rfl)<|.o (Qag z1 rfl)<|.o (Qag z2 rfl)<|.o (Qr z2)<|.o (Qr z2)<|.o (Qr z2)<|.n) λ_ a w H=>?_
 have H:=H.t2_0 [6,11]
 refine Q2 H ?_
 refine tIfs h [2,3,4] (λ_ h=>?_) (λ_ h=>?_)
 ·refine Qa [0,1] ?_
  exact Qo h (·▸Ql hpl)
 refine Qa [3,5,6] ?_
 have⟨t1,_,h⟩:=bs h
 refine Qa [2,3,4,5] ?_
 refine Qa [0,1,2,3,4] ?_
 refine QY (λ_ _ H=>H.nil (rI) 3) ?_
 have⟨t2,_,h⟩:=bs h
 refine QJ [v1 1 (λv0=>own Qau 4 t2 v0)] [2] [1,2,3,4,5,6,7] λm0=>?_
 refine Qf λK0 k0=>?_
 refine Qa [0,1,2,3,4,5,6,7] ?_
 have⟨e0,h1,h⟩:=bs h
 have J0:∀(p0:List Int×List Bool) (y0:Value),p0=e0->To M w0 122 [(11,tv (m0 1)),(10,tv y0),(9,tsl QT t1),(8,ti (x_.Xa.length:Int)),(5,tsl QD t0.1),(1,tptr (Qc.cs x_))] [own rI 3 p0.1 y0,own Qau 4 p0.2 (m0 1)] K0:=by
  intro p0 y0 he;subst he;refine k0 <|Qf λ_ k1=>?_;have⟨t3,h2,h⟩:=bs h;intro a w H;refine sr mx [] H (λ_=>.o (Qaa Qbk z5)<|.q 5 rfl<|.q 2 rfl<|.u [1] rfl rfl (QcU [own Qau 4 p0.2 (m0 1)] QnN (QgI.ok h2) (.cons (.of z2)<|.cons (.of z1)<|.cons (.own z0 (.head _))<|.nil) (λ_=>Qci) (λ_=>QeO (x:=undef)))<|.n) λ_ a w H=>?_;have H:=H.to [2,3,4,5,6,7,8,9] [_,_,_,_,_,_,_,_] [_,_] rfl rfl;refine Q2 H ?_;refine Qel 1 (λb0=>?_) (λb0=>?_)
  ·replace h:=QcI b0 h;refine Qa [0,1,2,4,5] ?_;exact Qo h (·▸Ql hpl)
  replace h:=QcJ b0 h;refine Qq <|k1 <|Qa [6,7,9,10,12,13,14] ?_;refine Qf λK1 k2=>Qa [0,1,2,3,4,5,6,7] ?_;have⟨e1,h3,h⟩:=bs h;have J1:∀(p1:Int),p1=e1->To M w0 122 [(13,ti p1)] [] K1:=by
   intro p1 he;subst he;refine k2 <|Qa [1,2] ?_;exact Qo h (·▸Ql hpl)
  refine Qj <|Qai h3 (λ(s0:Int×Int)=>[(14,ti s0.1),(13,ti s0.2),(11,tv (m0 1)),(10,tv y0),(8,ti (x_.Xa.length:Int)),(5,tsl QD t0.1),(1,tptr (Qc.cs x_))]) (λ(s0:Int×Int)=>[own rI 3 p0.1 y0,own Qau 4 p0.2 (m0 1)]) [0,1,3,4,5,6,7] ?_;clear h;intro s0 o K2 h ho k3;refine Qf λ_ k4=>?_;have⟨_,h4,h⟩:=bs h;intro a w H;refine sr mx [] H (λ_=>.q 0 rfl<|.q 5 rfl<|.o (QcZ ud3 ud86 z0)<|.o (Qot .k z0 (Qix h4))<|.o (Qck z3 z0)<|.n) λ_ a w H=>?_;have H:=H.to [4,5,6,7,8,9,10,11] [_,_,_,_,_,_,_,_] [_,_] rfl rfl;refine Q2 H ?_;refine Qn h (λ_ h=>?_) (λ_ h=>?_)
  ·refine Qq <|k4 <|Qf λK3 k5=>Qj ?_;have⟨t4,_,h⟩:=bs h;refine QJ [v1 1 (λv0=>own Qau 4 t4 v0)] [2] [1,2,4,5,6,7,8,9,10] λm1=>?_;refine Qa [0,1,2,3,4,5,6,7,8,9] ?_;refine Qa [0,1,2,3,4,5,6,7,8,9,10] ?_;refine Qf λK4 k6=>Qa [0,1,2,3,4,5,6,7,8,9,10,11] ?_;have⟨e2,h5,h⟩:=bs h;have J2:∀(p2:Bool×Int×List Bool),p2=e2->To M w0 122 [(17,tb p2.1),(16,ti p2.2.1),(15,tv (m1 1)),(14,ti s0.1),(13,ti s0.2),(11,tv (m0 1)),(10,tv y0),(8,ti (x_.Xa.length:Int)),(5,tsl QD t0.1),(1,tptr (Qc.cs x_))] [own rI 3 p0.1 y0,own Qau 4 p0.2 (m0 1),own Qau 4 p2.2.2 (m1 1)] K4:=by
    intro p2 he;subst he;refine k6 <|Qa [5,7,8,9,10,11,12,13,14,15] ?_;have⟨p3,h6,h⟩:=bs h;have J3:To M w0 122 [(13,ti p3),(14,ti s0.1),(11,tv (m0 1)),(10,tv y0),(8,ti (x_.Xa.length:Int)),(5,tsl QD t0.1),(1,tptr (Qc.cs x_))] [own rI 3 p0.1 y0,own Qau 4 p0.2 (m0 1)] K3:=by
     refine k5 <|QL [2,3,4,5,6,7,8] ?_;exact Qu k3 ((sj h).symm) [0,1,2,3,4,5,6]
    replace h:=h6;clear h6;refine Qn h (λ_ h=>?_) (λ_ h=>?_)
    ·have⟨t5,h7,h⟩:=bs h;intro a w H;refine wr mx [] H (λ_=>.q 1 rfl<|.o (Qaa Qbk z10)<|.q 10 rfl<|.q 5 rfl<|.q 8 rfl<|.q 6 rfl<|.o (QjS z1 z0)<|.u [2] rfl rfl (QcU [own Qau 4 p2.2.2 (m1 1)] Qvr (QnY.ok h7) (.cons (.of z5)<|.cons (.of z4)<|.cons (.own z3 (.head _))<|.cons (.of z0)<|.nil) (λ_=>Qci) (λ_=>QeO (x:=undef)))<|.o (QaH z7 z0)<|.o (Qr z0)<|.n) λ_ a w H=>?_;have H:=H.to [3,9,12,13,14,15,16,17,18] [_,_,_,_,_,_,_,_,_] [_,_,_] rfl rfl;refine Qbl H ?_;obtain rfl:=sj h;refine Qad (λ_ _ H=>(H.pick [1,3,4,5,6,7,8]).Xk [0,1] rfl) ?_;exact QK J3 [0,1,2,3,4,5,6]
    refine Qq ?_;obtain rfl:=sj h;refine Qad (λ_ _ H=>(H.pick [4,3,5,6,7,8,9]).Xk [0,1] rfl) ?_;exact QK J3 [0,1,2,3,4,5,6]
   refine Qj <|Qai h5 (λ(s1:Int×Bool×Int×List Bool)=>[(18,ti s1.1),(17,tb s1.2.1),(16,ti s1.2.2.1),(15,tv (m1 1)),(14,ti s0.1),(13,ti s0.2),(11,tv (m0 1)),(10,tv y0),(8,ti (x_.Xa.length:Int)),(5,tsl QD t0.1),(1,tptr (Qc.cs x_))]) (λ(s1:Int×Bool×Int×List Bool)=>[own rI 3 p0.1 y0,own Qau 4 p0.2 (m0 1),own Qau 4 s1.2.2.2 (m1 1)]) [0,1,2,4,5,6,7,8,9,10,11] ?_;clear h;intro s1 o K5 h ho k7;refine Qf λ_ k8=>Qa [2,3,4,5,6,7,8,9,10,11,12,13] ?_;refine Qn h (λ_ h=>?_) (λ_ h=>?_)
   ·refine Qq <|k8 <|Qf λK6 k9=>Qj ?_;have⟨_,h8,h⟩:=bs h;intro a w H;refine sr mx [] H (λ_=>.q 5 rfl<|.q 2 rfl<|.o (QcZ ud3 ud86 z0)<|.o (QbC z2 z0 (Qix h8))<|.o (Qnn z0 .k (by decide))<|.o (QcG z0 .k)<|.n) λ_ a w H=>?_;have H:=H.to [5,7,8,9,10,11,12,13,14,15,16,17] [_,_,_,_,_,_,_,_,_,_,_,_] [_,_,_] rfl rfl;refine Q2 H ?_;have⟨p4,h9,h⟩:=bs h;have J4:To M w0 122 [(17,tb p4.1),(16,ti p4.2.1),(18,ti s1.1),(15,tv (m1 1)),(14,ti s0.1),(13,ti s0.2),(11,tv (m0 1)),(10,tv y0),(8,ti (x_.Xa.length:Int)),(5,tsl QD t0.1),(1,tptr (Qc.cs x_))] [own rI 3 p0.1 y0,own Qau 4 p0.2 (m0 1),own Qau 4 p4.2.2 (m1 1)] K6:=by
     refine k9 <|QL [2,3,4,5,6,7,8,9,10,11,12] ?_;exact Qu k7 ((sj h).symm) [0,1,2,3,4,5,6,7,8,9,10]
    replace h:=h9;clear h9;refine Qn h (λ_ h=>?_) (λ_ h=>?_)
    ·have⟨t6,_,h⟩:=bs h;refine QJ [v0 (own Qau 4 t6 (m1 1))] [4] [0,4,5,6,7,8,9,10,11,12,13,14] λm2=>?_;have⟨_,_,h⟩:=bs h;refine Qa [1,6,7,8,9,10,11,12,13,14,15,16,17] ?_;have⟨_,_,h⟩:=bs h;refine QL [7,8,9,10,11,12,13,14,15,16,17,18,19] ?_;obtain rfl:=sj h;exact QK J4 [0,2,4,5,6,7,8,9,10,11,12]
    refine Qq ?_;obtain rfl:=sj h;exact QK J4 [2,3,1,4,5,6,7,8,9,10,11]
   refine QO <|Qu J2 (ho _ (sj h).symm) [2,3,4,5,6,7,8,9,10,11]
  refine QO <|Qad (λ_ _ H=>(H.pick [2]).Xk [] rfl) ?_;exact Qu J1 (ho _ (sj h).symm) [0]
 refine Qj <|QaC h1 (λ(s2:Int×List Int×List Bool) (y1:Value)=>[(12,ti s2.1),(11,tv (m0 1)),(10,tv y1),(9,tsl QT t1),(8,ti (x_.Xa.length:Int)),(5,tsl QD t0.1),(1,tptr (Qc.cs x_))]) (λ(s2:Int×List Int×List Bool) (y1:Value)=>[own rI 3 s2.2.1 y1,own Qau 4 s2.2.2 (m0 1)]) (.slice none 0 0) [0,2,3,4,5,6,7] ?_;clear h;intro s2 y1 o K7 h ho k10;refine Qf λ_ k11=>Qa [2,3,4,5,6,7,8,9] ?_;refine Qn h (λ_ h=>?_) (λ_ h=>?_)
 ·refine Qq <|k11 <|Qf λ_ k12=>Qj ?_;have⟨t7,_,_,_,h⟩:=bs2 h;refine QJ [v1 6 (λv0=>own rI 3 (s2.2.1++[t7]) v0)] [7] [6,7,9,10,11,12,13,14] λm3=>?_;have⟨_,_,t8,_,h⟩:=bs2 h;refine Qal [v0 (own Qau 4 t8 (m0 1))] [9] [0,2,8,9,10,11,12,13,14,15] λm4=>?_;refine k12 <|QL [2,3,4,5,6,7,8,9,10,11] ?_;exact QV k10 (m3 6) ((sj h).symm) [0,5,4,6,7,8,9]
 refine QO <|QV J0 y1 (ho _ (sj h).symm) [2,3,4,5,6,7]
