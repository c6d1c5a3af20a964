/- The walk. No condition. -/
import Derived.Test.YtlajingmjmnfgaaGreatDoorGenK
set_option linter.all false
open Go.Proofs.Tryz Go.IntKind
namespace Go.Proofs.YtlajingmjmnfgaaGreatDoor
noncomputable section
open Go.Sim
set_option maxRecDepth 100000
set_option maxHeartbeats 4000000
def Qgw (n_:Int) (l_:(List QE)):Option ((List Int)×Int):=(Qgv n_ l_).bind λt0=>(if (t0 !=0)=true then (some (([]:List Int),t0)) else (Ql (λ(s0:Int)=>((if (decide (s0<=(i64.wrap (n_+1))))=true then (Ql (λ(s1:Int)=>((if (decide (s1<(l_.length:Int)))=true then (idx l_ s1).bind λt1=>(QaQ n_ t1.A).bind λt2=>(Qf2 n_ l_ s1 t2 (i64.wrap (s0 - 1))).bind λt3=>(idx l_ s1).bind λt4=>(QaQ n_ t4.B).bind λt5=>(idx l_ s1).bind λt6=>(idx t3 (i64.wrap (s0 - 1))).bind λt7=>(idx t7 t5).bind λt8=>(opt ((decide (t8>=1099511627776))==false) (idx t3 (i64.wrap (s0 - 1))) default).bind λt9=>(opt ((decide (t8>=1099511627776))==false) (idx t9 t5) default).bind λt10=>(if ((decide (t8>=1099511627776))||(decide ((i64.wrap (t6.N+t10))>=0)))=true then (some (.inl (i64.wrap (s1+1)))) else (Ql (λ(s2:Int×Int×Int×List Int)=>((if (decide (s2.1>=0))=true then (Ql (λ(s3:Int)=>((if (decide (s3<(l_.length:Int)))=true then (idx l_ s3).bind λt11=>(QaQ n_ t11.B).bind λt12=>(idx l_ s3).bind λt13=>(QaQ n_ t13.A).bind λt14=>(opt ((t14==s2.2.2.1)==true) (idx t3 s2.1) default).bind λt15=>(opt ((t14==s2.2.2.1)==true) (idx t15 t12) default).bind λt16=>(opt (((t14==s2.2.2.1)&&(decide (t16<1099511627776)))==true) (idx l_ s3) default).bind λt17=>(opt (((t14==s2.2.2.1)&&(decide (t16<1099511627776)))==true) (idx t3 s2.1) default).bind λt18=>(opt (((t14==s2.2.2.1)&&(decide (t16<1099511627776)))==true) (idx t18 t12) default).bind λt19=>(if (((t14==s2.2.2.1)&&(decide (t16<1099511627776)))&&(decide ((i64.wrap ((i64.wrap (s2.2.1+t17.N))+t19))<0)))=true then (rm (s2.2.2.2.length+[s3].length)).bind λ_=>(idx l_ s3).bind λt20=>(some (.inr (t12,(i64.wrap (s2.2.1+t20.N)),(s2.2.2.2++[s3])))) else (some (.inl (i64.wrap (s3+1))))) else (some (.inr (s2.2.2.1,s2.2.1,s2.2.2.2)))):Option ((Int)⊕((Int×Int×List Int))))) (i64.wrap (s1+1))).bind λp0=>(some (.inl ((i64.wrap (s2.1 - 1)),p0.2.1,p0.1,p0.2.2))) else (some (.inr s2.2.2.2))):Option ((Int×Int×Int×List Int)⊕((List Int))))) ((i64.wrap (s0 - 2)),t6.N,t5,[s1])).bind λp1=>(some (.inr (.inr ((0:Int),p1))))) else (some (.inr (.inl ())))):Option ((Int)⊕((Unit)⊕(Int×List Int))))) (0:Int)).bind λe0=>(match e0 with | .inl _=>(some (.inl (i64.wrap (s0+1)))) | .inr p2=>(some (.inr (.inr (p2.1,p2.2))))) else (some (.inr (.inl ())))):Option ((Int)⊕((Unit)⊕(Int×List Int))))) (2:Int)).bind λe1=>(match e1 with | .inl _=>(some (([]:List Int),(6:Int))) | .inr p3=>(some (p3.2,p3.1))))
instance QCe:Spc2 prog 99 Qgw (λn_ l_=>[ti n_,tsl Qad l_]) (λr=>ttup [tsl rI r.1,ti r.2]):=.mk λ{n_ l_ r} h=>by
 unfold Qgw at h
 refine Fe func99 ntmps99 λM0 M w0 hpl=>?_
 refine Qa [2,3] ?_
 have⟨_,_,h⟩:=bs h
 refine Qa [3,4,5] ?_
 refine tIfs h [1,2,3,4] (λ_ h=>?_) (λ_ h=>?_)
 ·refine Qa [1,2] ?_
  exact Qo h (·▸Qm hpl)
 refine Qf λK0 k0=>?_
 refine Qa [0,3,4] ?_
 have⟨e0,h0,h⟩:=bs h
 have J0:∀(p0:Unit),(.inl p0)=e0->To M w0 154 [] [] K0:=by
  intro p0 he;subst he;simp only at h;refine k0 <|Qa [0,1] ?_;exact Qo h (·▸Qm hpl)
 have J1:∀(p1:Int×List Int) (y0:Value),(.inr p1)=e0->To M w0 154 [(4,tv y0),(5,ti p1.1)] [own rI 3 p1.2 y0] (Ret prog f99 M0 [] w0 (λ_=>[]) (λ_=>ttup [tsl rI r.1,ti r.2]) .ret):=by
  intro p1 y0 he;subst he;simp only at h;refine Qah (by intro _ _ H;exact (H.Xn 0 rfl).pick [0,2]) ?_;obtain rfl:=sj h;exact Qm hpl
 refine Qj <|Qai h0 (λ(s0:Int)=>[(7,ti s0),(0,ti n_),(1,tsl Qad l_)]) (λ(s0:Int)=>[]) [0,1,2] ?_;clear h;intro s0 o K1 h ho k1;refine Qf λ_ k2=>Qa [3,4,5,6] ?_;refine Qn h (λ_ h=>?_) (λ_ h=>?_)
 ·refine Qq <|k2 <|Qf λK2 k3=>Qj <|Qa [0,2,3,4] ?_;have⟨e1,h1,h⟩:=bs h;have J2:∀(p2:Unit),(.inl p2)=e1->To M w0 154 [(7,ti s0),(0,ti n_),(1,tsl Qad l_)] [] K2:=by
   intro p2 he;subst he;simp only at h;refine k3 <|QJ [2,3,4] ?_;exact Qu k1 ((sj h).symm) [0,1,2]
  have J3:∀(p3:Int×List Int) (y1:Value),(.inr p3)=e1->To M w0 154 [(4,tv y1),(5,ti p3.1)] [own rI 3 p3.2 y1] (Ret prog f99 M0 [] w0 (λ_=>[]) (λ_=>ttup [tsl rI r.1,ti r.2]) .ret):=by
   intro p3 y1 he;subst he;simp only at h;exact QX J1 y1 (ho _ (sj h).symm) [0,1]
  refine Qj <|Qai h1 (λ(s1:Int)=>[(8,ti s1),(7,ti s0),(0,ti n_),(1,tsl Qad l_)]) (λ(s1:Int)=>[]) [0,1,2,3] ?_;clear h;intro s1 o K3 h ho k4;refine Qf λ_ k5=>Qa [3,4,5,6,7] ?_;refine Qn h (λ_ h=>?_) (λ_ h=>?_)
  ·refine Qq <|k5 <|Qf λ_ k6=>Qj ?_;have⟨_,_,_,_,t0,_,h⟩:=bs3 h;refine Qa [13,15,16,17,18] ?_;have⟨_,_,_,_,h⟩:=bs2 h;refine Qa [7,8,9,10,11,12] ?_;have⟨_,_,h⟩:=bs h;refine Qa [5,6,7,8,9,10,11] ?_;have⟨_,_,_,_,_,_,_,_,h⟩:=bs4 h;refine tIfs h [21,22,23,24,25,26,27,28] (λ_ h=>?_) (λ_ h=>?_)
   ·refine QN <|k6 <|QJ [2,7,8,9] ?_;exact Qu k4 ((sj h).symm) [0,1,2,3]
   refine QM [v1 1 (λv0=>own rI 3 [s1] v0)] [2] [1,2,4,5,6,7,8,9,10] λm0=>?_;refine Qf λK4 k7=>Qa [2,3,4,5,6,7,8,10,11] ?_;have⟨e2,h2,h⟩:=bs h;have J4:∀(p4:List Int) (y2:Value),p4=e2->To M w0 154 [(12,tv y2)] [own rI 3 p4 y2] K4:=by
    intro p4 y2 he;subst he;refine k7 <|Qa [0,1,2,3] ?_;refine Qal ?_;exact QX J3 y2 (ho _ (sj h).symm) [1,2]
   refine Qj <|QaF h2 (λ(s2:Int×Int×Int×List Int) (y3:Value)=>[(13,ti s2.1),(12,tv y3),(11,ti s2.2.1),(10,ti s2.2.2.1),(9,tsl (rSl rI) t0),(8,ti s1),(0,ti n_),(1,tsl Qad l_)]) (λ(s2:Int×Int×Int×List Int) (y3:Value)=>[own rI 3 s2.2.2.2 y3]) (m0 1) [0,2,3,4,5,6,7,8] ?_;clear h;intro s2 y3 o K5 h ho k8;refine Qf λ_ k9=>Qa [1,2,3,4,5,6,7,8,9] ?_;refine Qn h (λ_ h=>?_) (λ_ h=>?_)
   ·refine Qq <|k9 <|Qf λK6 k10=>Qj <|Qa [2,4,5,6,7,8,9,10,11] ?_;have⟨e3,h3,h⟩:=bs h;have J5:∀(p5:Int×Int×List Int) (y4:Value),p5=e3->To M w0 154 [(10,ti p5.1),(11,ti p5.2.1),(12,tv y4),(13,ti s2.1),(9,tsl (rSl rI) t0),(8,ti s1),(0,ti n_),(1,tsl Qad l_)] [own rI 3 p5.2.2 y4] K6:=by
     intro p5 y4 he;subst he;refine k10 <|QJ [2,3,4,5,6,7,8,9] ?_;exact QX k8 y4 ((sj h).symm) [0,3,2,1,4,5,6,7]
    refine Qj <|Qai h3 (λ(s3:Int)=>[(14,ti s3),(13,ti s2.1),(12,tv y3),(11,ti s2.2.1),(10,ti s2.2.2.1),(9,tsl (rSl rI) t0),(8,ti s1),(0,ti n_),(1,tsl Qad l_)]) (λ(s3:Int)=>[own rI 3 s2.2.2.2 y3]) [0,1,2,3,4,5,6,7,8] ?_;clear h;intro s3 o K7 h ho k11;refine Qf λ_ k12=>Qa [3,4,5,6,7,8,9,10,11,12] ?_;refine Qn h (λ_ h=>?_) (λ_ h=>?_)
    ·refine Qq <|k12 <|Qf λ_ k13=>Qj ?_;have⟨_,_,_,_,h⟩:=bs2 h;refine Qa [7,9,10,11,12,13,14,15,16,17] ?_;have⟨_,_,_,_,_,_,_,_,h⟩:=bs4 h;have⟨_,_,_,_,_,_,h⟩:=bs3 h;refine Qa [36,37,38,39,40,41,42,43,44,45,46] ?_;refine Qn h (λ_ h=>?_) (λ_ h=>?_)
     ·have⟨_,_,h⟩:=bs h;refine QM [v1 3 (λv0=>own rI 3 (s2.2.2.2++[s3]) v0)] [4] [3,4,6,7,8,9,11,12,13,14] λm1=>?_;have⟨_,_,h⟩:=bs h;refine Qa [7,8,9,10,12,13,14,15,16] ?_;refine Qa [1,2,3,4,6,7,8,9,10] ?_;refine QN <|QX J5 (m1 3) (ho _ (sj h).symm) [0,1,3,4,5,6,7,8]
     refine Qq <|k13 <|QJ [2,5,6,7,8,9,10,11,12] ?_;exact Qu k11 ((sj h).symm) [0,1,2,3,4,5,6,7,8]
    refine QN <|QX J5 y3 (ho _ (sj h).symm) [5,4,3,2,6,7,8,9]
   refine QN <|QX J4 y3 (ho _ (sj h).symm) [2]
  refine QN <|Qu J2 (ho _ (sj h).symm) [2,3,4]
 refine QN <|Qu J0 (ho _ (sj h).symm) []
def Qgx (x_:Qb) (kind_:Int) (some_:(List QI)):Option (Int):=(Ql (λ(s0:Int×List QE)=>((if (decide (s0.1<(some_.length:Int)))=true then (idx some_ s0.1).bind λt0=>((if (t0.Xi==kind_)=true then (idx some_ s0.1).bind λt1=>(rm (s0.2.length+[t1.Xu].length)).bind λ_=>(some (s0.2++[t1.Xu])) else (some s0.2))).bind λp0=>(some (.inl ((i64.wrap (s0.1+1)),p0))) else (some (.inr s0.2))):Option ((Int×List QE)⊕((List QE))))) ((0:Int),([]:List QE))).bind λp1=>(idx x_.Xa kind_).bind λt2=>(Qgw (t2.Xb.length:Int) p1).bind λt3=>(if (t3.2 !=0)=true then (some (0:Int)) else (some (t3.1.length:Int)))
instance QoV:Spc3 prog 41 Qgx (λx_ kind_ some_=>[Qd.ty x_,ti kind_,tsl QW some_]) ti:=.mk λ{x_ kind_ some_ r} h=>by
 unfold Qgx at h
 refine Fe func41 ntmps41 λM0 M w0 hpl=>?_
 refine Qa [0,3,4] ?_
 refine Qa [0,1,2,3] ?_
 refine Q1 (λ_ _ H=>H.nil (Qad) 64) ?_
 refine Qf λK0 k0=>?_
 refine Qa [0,1,2,3,4] ?_
 have⟨e0,h0,h⟩:=bs h
 have J0:∀(p0:List QE) (y0:Value),p0=e0->To M w0 48 [(7,tv y0),(3,tptr (Qd.cs x_)),(1,ti kind_)] [own Qad 64 p0 y0] K0:=by
  intro p0 y0 he;subst he;refine k0 <|Q1 (by intro _ _ H;exact (H.Xn 0 rfl).pick [0,2,3]) ?_;have⟨_,_,_,_,h⟩:=bs2 h;refine Qa [12,13] ?_;refine tIfs h [1,2] (λ_ h=>?_) (λ_ h=>?_)
  ·refine Qa [0] ?_;exact Qo h (·▸Qm hpl)
  refine Qa [2] ?_;exact Qo h (·▸Qm hpl)
 refine Qj <|QaF h0 (λ(s0:Int×List QE) (y1:Value)=>[(8,ti s0.1),(7,tv y1),(3,tptr (Qd.cs x_)),(1,ti kind_),(2,tsl QW some_)]) (λ(s0:Int×List QE) (y1:Value)=>[own Qad 64 s0.2 y1]) (.slice none 0 0) [0,1,2,3,4] ?_;clear h;intro s0 y1 o K1 h ho k1;refine Qf λ_ k2=>Qa [3,4,5,6,7,8] ?_;refine Qn h (λ_ h=>?_) (λ_ h=>?_)
 ·refine Qq <|k2 <|Qf λK2 k3=>Qj ?_;have⟨_,_,h⟩:=bs h;refine Qa [6,8,9,10,11,12] ?_;have⟨p1,h1,h⟩:=bs h;have J1:∀(y2:Value),To M w0 48 [(7,tv y2),(8,ti s0.1),(3,tptr (Qd.cs x_)),(1,ti kind_),(2,tsl QW some_)] [own Qad 64 p1 y2] K2:=by
   intro y2;refine k3 <|QJ [2,3,4,5,6] ?_;exact QX k1 y2 ((sj h).symm) [0,1,2,3,4]
  replace h:=h1;clear h1;refine Qn h (λ_ h=>?_) (λ_ h=>?_)
  ·have⟨t0,_,_,_,h⟩:=bs2 h;refine Qau [v1 7 (λv0=>own Qad 64 (s0.2++[t0.Xu]) v0)] [8] [7,8,10,11,12,13] λm0=>?_;obtain rfl:=sj h;exact QR (J1 (m0 7)) [1,2,3,4,5]
  refine Qq ?_;obtain rfl:=sj h;exact QR (J1 y1) [2,1,3,4,5]
 refine QN <|QX J0 y1 (ho _ (sj h).symm) [2,3,4]
def QfU (x_:Qb) (l_:(List QB)) (low_:(List Int)):Option ((List Int)×Bool):=(rm (([]:List Int).length+low_.length)).bind λ_=>(Ql (λ(s0:Int×List Int)=>((if (decide (s0.1<(l_.length:Int)))=true then (idx l_ s0.1).bind λt0=>((if (decide (t0.B>=0))=true then (idx l_ s0.1).bind λt1=>(idx s0.2 t1.B).bind λt2=>(some t2) else (some (1:Int)))).bind λp0=>(idx l_ s0.1).bind λt3=>(idx s0.2 t3.A).bind λt4=>(idx l_ s0.1).bind λt5=>(jn (λ(p1:List Int)=>(some (.inl ((i64.wrap (s0.1+1)),p1)))) λj214=>(if t5.Xh=true then (idx l_ s0.1).bind λt6=>(idx l_ s0.1).bind λt7=>(setAt s0.2 t6.A (imax t4 (i64.wrap (t7.Mul * p0)))).bind λt8=>(j214 t8) else (opt ((decide (t4>0))==true) (idx l_ s0.1) default).bind λt9=>(opt (((decide (t4>0))&&(t9.Mul==0))==false) (idx l_ s0.1) default).bind λt10=>(opt ((((decide (t4>0))&&(t9.Mul==0))==false)&&((decide (t10.B<0))==true)) (idx l_ s0.1) default).bind λt11=>(if (((decide (t4>0))&&(t9.Mul==0))||((decide (t10.B<0))&&(decide (t4>t11.Mul))))=true then (some (.inr (.inr (([]:List Int),false)))) else (idx l_ s0.1).bind λt12=>((if ((decide (t12.B>=0))&&(decide (t4>0)))=true then (idx l_ s0.1).bind λt13=>(idx l_ s0.1).bind λt14=>(idx l_ s0.1).bind λt15=>(nz t15.Mul).bind λ_=>(setAt s0.2 t13.B (imax p0 (i64.wrap (Int.tdiv (i64.wrap ((i64.wrap (t4+t14.Mul)) - 1)) t15.Mul)))).bind λt16=>(some t16) else (some s0.2))).bind λp2=>(j214 p2)))) else (some (.inr (.inl s0.2)))):Option ((Int×List Int)⊕((List Int)⊕((List Int)×Bool))))) ((0:Int),(([]:List Int)++low_))).bind λe0=>(match e0 with | .inl p3=>(Ql (λ(s1:Int×List Int)=>((if (decide (s1.1<(x_.Xa.length:Int)))=true then (Ql (λ(s2:Int×List Int)=>((idx x_.Xa s1.1).bind λt17=>(if (decide (s2.1<(t17.Xb.length:Int)))=true then (idx x_.Xa s1.1).bind λt18=>(idx t18.Xb s2.1).bind λt19=>(opt ((t19.Xi==1)==true) (idx s2.2 s1.1) default).bind λt20=>((if ((t19.Xi==1)&&(decide (t20>0)))=true then (Qfn x_ s1.1 s2.1).bind λt21=>(idx s2.2 t21).bind λt22=>(setAt s2.2 t21 (imax t22 1)).bind λt23=>(some t23) else (some s2.2))).bind λp4=>(some (.inl ((i64.wrap (s2.1+1)),p4))) else (some (.inr s2.2))):Option ((Int×List Int)⊕((List Int))))) ((0:Int),s1.2)).bind λp5=>(some (.inl ((i64.wrap (s1.1+1)),p5))) else (some (.inr s1.2))):Option ((Int×List Int)⊕((List Int))))) ((0:Int),p3)).bind λp6=>(some (p6,true)) | .inr p7=>(some (p7.1,p7.2)))
instance QzI:Spc3 prog 100 QfU (λx_ l_ low_=>[Qd.ty x_,tsl QY l_,tsl rI low_]) (λr=>ttup [tsl rI r.1,tb r.2]):=.mk λ{x_ l_ low_ r} h=>by
 unfold QfU at h
 refine Fe func100 ntmps100 λM0 M w0 hpl=>?_
 refine Qa [0,4,5] ?_
 have⟨_,_,h⟩:=bs h
 refine QM [v1 0 (λv0=>own rI 3 ([]:List Int) v0),v1 2 (λv0=>own rI 3 (([]:List Int)++low_) v0)] [1,3] [2,3,4,5] λm0=>?_
 refine Qf λK0 k0=>?_
 refine Qa [0,1,2,3,4] ?_
 have⟨e0,h0,h⟩:=bs h
 have J0:∀(p0:List Int),(.inl p0)=e0->To M w0 176 [(8,tv (m0 2)),(3,tptr (Qd.cs x_))] [own rI 3 p0 (m0 2)] K0:=by
  intro p0 he;subst he;simp only at h;refine k0 <|Qf λK1 k1=>Qa [0,1,2] ?_;have⟨e1,h1,h⟩:=bs h;have J1:∀(p1:List Int),p1=e1->To M w0 176 [(8,tv (m0 2))] [own rI 3 p1 (m0 2)] K1:=by
   intro p1 he;subst he;refine k1 <|Qa [0,1,2,3] ?_;refine Qal ?_;refine Qah (by intro _ _ H;exact (H.Xn 1 rfl).pick [0,3]) ?_;obtain rfl:=sj h;exact Qm hpl
  refine Qj <|Qai h1 (λ(s0:Int×List Int)=>[(12,ti s0.1),(8,tv (m0 2)),(3,tptr (Qd.cs x_))]) (λ(s0:Int×List Int)=>[own rI 3 s0.2 (m0 2)]) [0,1,2] ?_;clear h;intro s0 o K2 h ho k2;refine Qf λ_ k3=>Qa [4,5,6,7] ?_;refine Qn h (λ_ h=>?_) (λ_ h=>?_)
  ·refine Qq <|k3 <|Qf λK3 k4=>Qj <|Qa [0,2,3,4] ?_;have⟨e2,h2,h⟩:=bs h;have J2:∀(p2:List Int),p2=e2->To M w0 176 [(12,ti s0.1),(8,tv (m0 2)),(3,tptr (Qd.cs x_))] [own rI 3 p2 (m0 2)] K3:=by
    intro p2 he;subst he;refine k4 <|QJ [2,3,4] ?_;exact Qu k2 ((sj h).symm) [0,1,2]
   refine Qj <|Qai h2 (λ(s1:Int×List Int)=>[(13,ti s1.1),(12,ti s0.1),(8,tv (m0 2)),(3,tptr (Qd.cs x_))]) (λ(s1:Int×List Int)=>[own rI 3 s1.2 (m0 2)]) [0,1,2,3] ?_;clear h;intro s1 o K4 h ho k5;refine Qf λ_ k6=>?_;have⟨_,_,h⟩:=bs h;refine Qa [8,9,10,11,12] ?_;refine Qn h (λ_ h=>?_) (λ_ h=>?_)
   ·refine Qq <|k6 <|Qf λK5 k7=>Qj ?_;have⟨_,_,_,_,_,_,h⟩:=bs3 h;refine Qa [17,19,20,21,22] ?_;have⟨p3,h3,h⟩:=bs h;have J3:To M w0 176 [(13,ti s1.1),(12,ti s0.1),(8,tv (m0 2)),(3,tptr (Qd.cs x_))] [own rI 3 p3 (m0 2)] K5:=by
     refine k7 <|QJ [2,3,4,5] ?_;exact Qu k5 ((sj h).symm) [0,1,2,3]
    replace h:=h3;clear h3;refine Qn h (λ_ h=>?_) (λ_ h=>?_)
    ·have⟨_,_,h⟩:=bs h;refine Qa [4,6,7,8,9] ?_;have⟨_,_,t0,_,h⟩:=bs2 h;refine Qau [v0 (own rI 3 t0 (m0 2))] [9] [0,2,9,10,11,12] λm1=>?_;obtain rfl:=sj h;exact QR J3 [2,3,4,5]
    refine Qq ?_;obtain rfl:=sj h;exact QR J3 [1,2,3,4]
   refine QN <|Qu J2 (ho _ (sj h).symm) [2,3,4]
  refine QN <|Qu J1 (ho _ (sj h).symm) [2]
 have J4:∀(p4:(List Int)×Bool),(.inr p4)=e0->To M w0 176 [(6,tsl rI p4.1),(7,tb p4.2)] [] (Ret prog f100 M0 [] w0 (λ_=>[]) (λ_=>ttup [tsl rI r.1,tb r.2]) .ret):=by
  intro p4 he;subst he;simp only at h;obtain rfl:=sj h;exact Qm hpl
 refine Qj <|Qai h0 (λ(s2:Int×List Int)=>[(9,ti s2.1),(8,tv (m0 2)),(3,tptr (Qd.cs x_)),(1,tsl QY l_)]) (λ(s2:Int×List Int)=>[own rI 3 s2.2 (m0 2)]) [0,2,3,4] ?_;clear h;intro s2 o K6 h ho k8;refine Qf λ_ k9=>Qa [3,4,5,6,7] ?_;refine Qn h (λ_ h=>?_) (λ_ h=>?_)
 ·refine Qq <|k9 <|Qf λK7 k10=>Qj <|Qa [0,2,3,4,5] ?_;refine Qf λK8 k11=>?_;have⟨_,_,h⟩:=bs h;refine Qa [5,6,7,8,9,10] ?_;have⟨p5,h4,h⟩:=bs h;have J5:To M w0 176 [(10,ti p5),(9,ti s2.1),(8,tv (m0 2)),(3,tptr (Qd.cs x_)),(1,tsl QY l_)] [own rI 3 s2.2 (m0 2)] K8:=by
   refine k11 ?_;have⟨_,_,_,_,h⟩:=bs2 h;refine Qa [0,8,9,10,11,12,13] ?_;have⟨_,_,h⟩:=bs h;refine Qa [4,5,6,7,8,9,10,11] ?_;obtain⟨j214,hj214,h⟩:=QhO h;have J6:∀(p6:List Int),j214 p6=some o->To M w0 176 [(9,ti s2.1),(8,tv (m0 2)),(3,tptr (Qd.cs x_)),(1,tsl QY l_)] [own rI 3 p6 (m0 2)] K7:=by
    intro p6 h;rw[hj214] at h;clear hj214;refine k10 <|QJ [2,3,4,5] ?_;exact Qu k8 ((sj h).symm) [0,1,2,3]
   clear hj214;refine Qn h (λ_ h=>?_) (λ_ h=>?_)
   ·have⟨_,h5,h⟩:=bs h;replace h:=bk h5 h;have⟨t1,_,h⟩:=bs h;refine Qau [v0 (own rI 3 t1 (m0 2))] [17] [0,17,20,21,22,23] λm2=>?_;exact Qu J6 h [2,3,4,5]
   have⟨_,_,_,_,_,_,h⟩:=bs3 h;refine Qa [26,28,29,30,31,32,33,34] ?_;refine Qn h (λ_ h=>?_) (λ_ h=>?_)
   ·refine Qa [0,1,3,7] ?_;refine Qal ?_;refine Qah (λ_ _ H=>(H.pick [0,1]).Xk [] rfl) ?_;exact Qu J4 (ho _ (sj h).symm) [0,1]
   have⟨_,_,h⟩:=bs h;refine Qa [9,11,12,13,14,15,16,17] ?_;have⟨p7,h6,h⟩:=bs h;have J7:To M w0 176 [(9,ti s2.1),(8,tv (m0 2)),(3,tptr (Qd.cs x_)),(1,tsl QY l_)] [own rI 3 p7 (m0 2)] K7:=by
    exact Qu J6 h [0,1,2,3]
   replace h:=h6;clear h6;refine Qn h (λ_ h=>?_) (λ_ h=>?_)
   ·have⟨_,h7,h⟩:=bs h;replace h:=bk h7 h;replace h:=bk h7 h;have⟨_,_,t2,_,h⟩:=bs2 h;refine Qau [v0 (own rI 3 t2 (m0 2))] [24] [0,24,27,28,29,30] λm3=>?_;obtain rfl:=sj h;exact QR J7 [2,3,4,5]
   refine Qq ?_;obtain rfl:=sj h;exact QR J7 [4,5,6,7]
  replace h:=h4;clear h4;refine Qn h (λ_ h=>?_) (λ_ h=>?_)
  ·have⟨_,_,_,_,h⟩:=bs2 h;refine QJ [0,8,10,11,12,13] ?_;obtain rfl:=sj h;exact QR J5 [1,2,3,4,5]
  refine Qq ?_;obtain rfl:=sj h;exact QR J5 [1,2,3,4,5]
 refine QN <|Qu J0 (ho _ (sj h).symm) [2,3]
def QeI (a_:(List Int)) (b_:(List Int)):Option (Bool):=(if ((a_.length:Int) !=(b_.length:Int))=true then (some false) else (Ql (λ(s0:Int)=>((if (decide (s0<(a_.length:Int)))=true then (idx a_ s0).bind λt0=>(idx b_ s0).bind λt1=>(if (t0 !=t1)=true then (some (.inr (.inr false))) else (some (.inl (i64.wrap (s0+1))))) else (some (.inr (.inl ())))):Option ((Int)⊕((Unit)⊕(Bool))))) (0:Int)).bind λe0=>(match e0 with | .inl _=>(some true) | .inr p0=>(some p0)))
instance Qxw:Spc2 prog 101 QeI (λa_ b_=>[tsl rI a_,tsl rI b_]) tb:=.mk λ{a_ b_ r} h=>by
 unfold QeI at h
 refine Fe func101 ntmps101 λM0 M w0 hpl=>?_
 refine Qa [1,2] ?_
 refine tIfs h [4,5,6] (λ_ h=>?_) (λ_ h=>?_)
 ·refine Qa [0] ?_
  exact Qo h (·▸Qm hpl)
 refine Qf λK0 k0=>?_
 refine Qa [0,2,3] ?_
 have⟨e0,h0,h⟩:=bs h
 have J0:∀(p0:Unit),(.inl p0)=e0->To M w0 26 [] [] K0:=by
  intro p0 he;subst he;simp only at h;refine k0 <|Qa [0] ?_;exact Qo h (·▸Qm hpl)
 have J1:∀(p1:Bool),(.inr p1)=e0->To M w0 26 [(4,tb p1)] [] (Ret prog f101 M0 [] w0 (λ_=>[]) (λ_=>tb r) .ret):=by
  intro p1 he;subst he;simp only at h;obtain rfl:=sj h;exact Qm hpl
 refine Qj <|Qai h0 (λ(s0:Int)=>[(5,ti s0),(0,tsl rI a_),(1,tsl rI b_)]) (λ(s0:Int)=>[]) [0,1,2] ?_;clear h;intro s0 o K1 h ho k1;refine Qf λ_ k2=>Qa [3,4,5,6] ?_;refine Qn h (λ_ h=>?_) (λ_ h=>?_)
 ·refine Qq <|k2 <|Qf λ_ k3=>Qj ?_;have⟨_,_,_,_,h⟩:=bs2 h;refine Qa [8,10,11,12] ?_;refine Qn h (λ_ h=>?_) (λ_ h=>?_)
  ·refine Qa [0] ?_;refine Qal ?_;exact Qu J1 (ho _ (sj h).symm) [0]
  refine Qq <|k3 <|QJ [2,4,5] ?_;exact Qu k1 ((sj h).symm) [0,1,2]
 refine QN <|Qu J0 (ho _ (sj h).symm) []
def Qdz (x_:Qb) (l_:(List QB)) (empty_:(List Bool)):Option (Bool):=(mk (x_.Xa.length:Int) (0:Int)).bind λt0=>(Ql (λ(s0:(List Int))=>((QfU x_ l_ s0).bind λt1=>(if (!t1.2)=true then (some (.inr false)) else (Ql (λ(s1:Int)=>((if (decide (s1<(t1.1.length:Int)))=true then (idx t1.1 s1).bind λt2=>(opt ((decide (t2>65536))==false) (idx t1.1 s1) default).bind λt3=>(opt (((decide (t2>65536))==false)&&((decide (t3>0))==true)) (idx empty_ s1) default).bind λt4=>(if ((decide (t2>65536))||((decide (t3>0))&&t4))=true then (some (.inr (.inr false))) else (some (.inl (i64.wrap (s1+1))))) else (some (.inr (.inl ())))):Option ((Int)⊕((Unit)⊕(Bool))))) (0:Int)).bind λe0=>(match e0 with | .inl _=>(QeI s0 t1.1).bind λt5=>(if t5=true then (some (.inr true)) else (some (.inl t1.1))) | .inr p0=>(some (.inr p0)))):Option (((List Int))⊕((Bool))))) t0).bind λp1=>(some p1)
instance QmO:Spc3 prog 42 Qdz (λx_ l_ empty_=>[Qd.ty x_,tsl QY l_,tsl Qa2 empty_]) tb:=.mk λ{x_ l_ empty_ r} h=>by
 unfold Qdz at h
 refine Fe func42 ntmps42 λM0 M w0 hpl=>?_
 refine Qa [0,3,4] ?_
 have⟨t0,h0,h⟩:=bs h
 intro a w H
 refine sr mx [] H (λ_=>.o (Q7 Qd1 z0)<|.o (Q5 (u:=x_.Xa) QkF z0 rfl)<|.o (QfF ud29 z0)<|.o (QzQ (R:=rI) ud22 tok3 zok3 (leb rfl) z0 z0 h0)<|.o (Qp z0)<|.n) λ_ a w H=>?_
 have H:=H.t4_0 [4,5,6,7]
 refine Q6 H ?_
 have⟨e0,h1,h⟩:=bs h
 have J0:∀(p0:Bool),p0=e0->To M w0 52 [(6,tb p0)] [] (Ret prog f42 M0 [] w0 (λ_=>[]) (λ_=>tb r) .ret):=by
  intro p0 he;subst he;obtain rfl:=sj h;exact Qm hpl
 refine Qj <|Qai h1 (λ(s0:(List Int))=>[(7,tsl rI s0),(3,tptr (Qd.cs x_)),(1,tsl QY l_),(2,tsl Qa2 empty_)]) (λ(s0:(List Int))=>[]) [0,1,2,3] ?_;clear h;intro s0 o K0 h ho k0;refine Qj ?_;have⟨t1,_,h⟩:=bs h;refine Qa [7,8,9,10,11,12] ?_;refine tIfs h [1,2,4,5,6,7] (λ_ h=>?_) (λ_ h=>?_)
 ·refine Qa [0] ?_;refine Qal ?_;exact Qu J0 (ho _ (sj h).symm) [0]
 refine Qf λK1 k1=>Qa [0,2,3,4,5,6] ?_;have⟨e1,h2,h⟩:=bs h;have J1:∀(p1:Unit),(.inl p1)=e1->To M w0 52 [(8,tsl rI t1.1),(7,tsl rI s0),(3,tptr (Qd.cs x_)),(1,tsl QY l_),(2,tsl Qa2 empty_)] [] K1:=by
  intro p1 he;subst he;simp only at h;refine k1 ?_;have⟨_,_,h⟩:=bs h;refine tIfs h [2,3,5,6,7] (λ_ h=>?_) (λ_ h=>?_)
  ·refine Qa [0] ?_;refine Qal ?_;exact Qu J0 (ho _ (sj h).symm) [0]
  refine QJ [1,4,5,6] ?_;exact Qu k0 ((sj h).symm) [0,1,2,3]
 have J2:∀(p2:Bool),(.inr p2)=e1->To M w0 52 [(6,tb p2)] [] (Ret prog f42 M0 [] w0 (λ_=>[]) (λ_=>tb r) .ret):=by
  intro p2 he;subst he;simp only at h;exact Qu J0 (ho _ (sj h).symm) [0]
 refine Qj <|Qai h2 (λ(s1:Int)=>[(10,ti s1),(8,tsl rI t1.1),(7,tsl rI s0),(3,tptr (Qd.cs x_)),(1,tsl QY l_),(2,tsl Qa2 empty_)]) (λ(s1:Int)=>[]) [0,1,2,3,4,5] ?_;clear h;intro s1 o K2 h ho k2;refine Qf λ_ k3=>Qa [3,4,5,6,7,8,9] ?_;refine Qn h (λ_ h=>?_) (λ_ h=>?_)
 ·refine Qq <|k3 <|Qf λ_ k4=>Qj ?_;have⟨_,_,_,_,_,_,h⟩:=bs3 h;refine Qa [17,19,20,21,22,23,24] ?_;refine Qn h (λ_ h=>?_) (λ_ h=>?_)
  ·refine Qa [0] ?_;refine Qal ?_;exact Qu J2 (ho _ (sj h).symm) [0]
  refine Qq <|k4 <|QJ [2,4,5,6,7,8] ?_;exact Qu k2 ((sj h).symm) [0,1,2,3,4,5]
 refine QN <|Qu J1 (ho _ (sj h).symm) [2,3,4,5,6]
def QeQ (x_:Qb) (names_:(List Str)):Option (Bool):=(QdH x_).bind λt0=>(Ql (λ(s0:Int×List QB)=>((if (decide (s0.1<(t0.1.length:Int)))=true then (idx t0.2.1 s0.1).bind λt1=>(QgM names_ t1).bind λt2=>((if t2=true then (idx t0.1 s0.1).bind λt3=>(rm (s0.2.length+[t3].length)).bind λ_=>(some (s0.2++[t3])) else (some s0.2))).bind λp0=>(some (.inl ((i64.wrap (s0.1+1)),p0))) else (some (.inr s0.2))):Option ((Int×List QB)⊕((List QB))))) ((0:Int),([]:List QB))).bind λp1=>(Qe7 x_).bind λt4=>(Ql (λ(s1:Int×List QI)=>((if (decide (s1.1<(t4.length:Int)))=true then (idx t4 s1.1).bind λt5=>(QgM names_ t5.Xj).bind λt6=>((if t6=true then (idx t4 s1.1).bind λt7=>(rm (s1.2.length+[t7].length)).bind λ_=>(some (s1.2++[t7])) else (some s1.2))).bind λp2=>(some (.inl ((i64.wrap (s1.1+1)),p2))) else (some (.inr s1.2))):Option ((Int×List QI)⊕((List QI))))) ((0:Int),([]:List QI))).bind λp3=>(mk (x_.Xa.length:Int) false).bind λt8=>(Ql (λ(s2:Int×List Bool)=>((if (decide (s2.1<(s2.2.length:Int)))=true then (Qgx x_ s2.1 p3).bind λt9=>(setAt s2.2 s2.1 (decide (t9>0))).bind λt10=>(some (.inl ((i64.wrap (s2.1+1)),t10))) else (some (.inr s2.2))):Option ((Int×List Bool)⊕((List Bool))))) ((0:Int),t8)).bind λp4=>(Qdz x_ p1 p4).bind λt11=>(some t11)
instance QC5:Spc2 prog 48 QeQ (λx_ names_=>[Qd.ty x_,tsl rS names_]) tb:=.mk λ{x_ names_ r} h=>by
 unfold QeQ at h
 refine Fe func48 ntmps48 λM0 M w0 hpl=>?_
 refine Qa [0,3] ?_
 have⟨t0,h0,h⟩:=bs h
 intro a w H
 refine sr mx [] H (λ_=>.o (Qae Qcm z0)<|.o (QL QnU ((QhC.ok h0).ro (T':=ttup [tsl QY t0.1,tsl rS t0.2.1,ti t0.2.2]) QoC) (.cons (.of z0)<|.nil))<|.q 0 rfl<|.o (Qag z0 rfl)<|.o (Qag z1 rfl)<|.o (Qag z2 rfl)<|.o (Qp z2)<|.o (Qp z2)<|.o (Qp z2)<|.n) λ_ a w H=>?_
 have H:=H.t4_0 [6,7,9,10]
 refine Q6 H ?_
 refine Qa [0,1,2,3,4] ?_
 refine Q1 (λ_ _ H=>H.nil (QY) 183) ?_
 refine Qf λK0 k0=>?_
 refine Qa [0,1,2,3,4,5] ?_
 have⟨e0,h1,h⟩:=bs h
 have J0:∀(p0:List QB) (y0:Value),p0=e0->To M w0 84 [(8,tv y0),(2,tptr (Qd.cs x_)),(1,tsl rS names_)] [own QY 183 p0 y0] K0:=by
  intro p0 y0 he;subst he;refine k0 ?_;have⟨t1,_,h⟩:=bs h;refine Qa [2,3,4,5] ?_;refine Qa [0,1,2,3,4] ?_;refine Q1 (λ_ _ H=>H.nil (QW) 66) ?_;refine Qf λK1 k1=>Qa [0,1,2,3,4,5] ?_;have⟨e1,h2,h⟩:=bs h;have J1:∀(p1:List QI) (y1:Value),p1=e1->To M w0 84 [(11,tv y1),(8,tv y0),(2,tptr (Qd.cs x_))] [own QW 66 p1 y1,own QY 183 p0 y0] K1:=by
   intro p1 y1 he;subst he;refine k1 ?_;have⟨t2,_,h⟩:=bs h;refine QM [v1 3 (λv0=>own Qa2 4 t2 v0)] [4] [3,4,5,6,7] λm0=>?_;refine Qf λK2 k2=>Qa [0,1,2,3,4,5] ?_;have⟨e2,h3,h⟩:=bs h;have J2:∀(p2:List Bool),p2=e2->To M w0 84 [(13,tv (m0 3)),(8,tv y0),(2,tptr (Qd.cs x_))] [own QY 183 p0 y0,own Qa2 4 p2 (m0 3)] K2:=by
    intro p2 he;subst he;refine k2 ?_;have⟨t3,h4,h⟩:=bs h;intro a w H;refine sr mx [] H (λ_=>.o (Qae Qcm z2)<|.q 2 rfl<|.q 2 rfl<|.u [0,1] rfl rfl (Qey [own QY 183 p0 y0,own Qa2 4 p2 (m0 3)] QvW (QmO.ok h4) (.cons (.of z2)<|.cons (.own z1 (.head _))<|.cons (.own z0 (.tail _ (.head _)))<|.nil) (λ_=>Qc2) (λ_=>QgW (x:=undef)))<|.o (Qp z0)<|.n) λ_ a w H=>?_;have H:=H.to [1,2,4,5,6] [_,_,_,_,_] [_,_] rfl rfl;refine Q6 H ?_;exact Qo h (·▸Qm hpl)
   refine Qj <|Qai h3 (λ(s0:Int×List Bool)=>[(14,ti s0.1),(13,tv (m0 3)),(11,tv y1),(8,tv y0),(2,tptr (Qd.cs x_))]) (λ(s0:Int×List Bool)=>[own QW 66 p1 y1,own QY 183 p0 y0,own Qa2 4 s0.2 (m0 3)]) [0,2,3,4,5] ?_;clear h;intro s0 o K3 h ho k3;refine Qf λ_ k4=>Qa [1,3,4,5,6,7,8] ?_;refine QfI 1 (λb0=>?_) (λb0=>?_)
   ·replace h:=Qdc b0 h;refine Qq <|k4 <|Qf λ_ k5=>Qj ?_;have⟨_,h5,t4,h6,h⟩:=bs2 h;intro a w H;refine wr mx [v0 (own Qa2 4 t4 (m0 3))] H (λ_=>.q 3 rfl<|.q 3 rfl<|.o (Qae Qcm z8)<|.q 5 rfl<|.q 8 rfl<|.u [0] rfl rfl (Qey [own QW 66 p1 y1] QvV (QoV.ok h5) (.cons (.of z2)<|.cons (.of z1)<|.cons (.own z0 (.head _))<|.nil) (λ_=>Qc2) (λ_=>QgW (x:=undef)))<|.o (Qjj z0 .k)<|.u [2] rfl rfl (Qhv underlying93 tok4 z6 z5 h6)<|.e [] [2] [3] rfl rfl rfl rfl (Qhn tok4 z0 z1 h6)<|.n) λ_ a w H=>?_;have H:=H.to [0,4,8,10,11,12,13,14] [_,_,_,_,_,_,_,_] [_,_,_] rfl rfl;refine QbC H ?_;refine k5 <|QJ [2,3,4,5,6,7,8,9] ?_;exact Qu k3 ((sj h).symm) [0,4,5,6,7]
   replace h:=Qdd b0 h;refine QN <|Qah (λ_ _ H=>(H.pick [3,5,6]).Xk [1,2] rfl) ?_;exact Qu J2 (ho _ (sj h).symm) [0,1,2]
  refine Qj <|QaF h2 (λ(s1:Int×List QI) (y2:Value)=>[(12,ti s1.1),(11,tv y2),(10,tsl QW t1),(8,tv y0),(2,tptr (Qd.cs x_)),(1,tsl rS names_)]) (λ(s1:Int×List QI) (y2:Value)=>[own QW 66 s1.2 y2,own QY 183 p0 y0]) (.slice none 0 0) [0,1,2,3,4,5] ?_;clear h;intro s1 y2 o K4 h ho k6;refine Qf λ_ k7=>Qa [3,4,5,6,7,8,9] ?_;refine Qn h (λ_ h=>?_) (λ_ h=>?_)
  ·refine Qq <|k7 <|Qf λK5 k8=>Qj ?_;have⟨_,_,_,_,h⟩:=bs2 h;refine Qa [6,8,9,10,11,12,13] ?_;have⟨p3,h7,h⟩:=bs h;have J3:∀(y3:Value),To M w0 84 [(11,tv y3),(12,ti s1.1),(10,tsl QW t1),(8,tv y0),(2,tptr (Qd.cs x_)),(1,tsl rS names_)] [own QY 183 p0 y0,own QW 66 p3 y3] K5:=by
    intro y3;refine k8 <|QJ [2,3,4,5,6,7] ?_;refine Qah (λ_ _ H=>(H.pick [0,1,2,3,4,5]).Xk [1,0] rfl) ?_;exact QX k6 y3 ((sj h).symm) [0,1,2,3,4,5]
   replace h:=h7;clear h7;refine Qn h (λ_ h=>?_) (λ_ h=>?_)
   ·have⟨t5,_,_,_,h⟩:=bs2 h;refine Qau [v1 6 (λv0=>own QW 66 (s1.2++[t5]) v0)] [7] [6,7,9,10,11,12,13] λm1=>?_;obtain rfl:=sj h;exact QR (J3 (m1 6)) [1,2,3,4,5,6]
   refine Qq ?_;obtain rfl:=sj h;refine Qah (λ_ _ H=>(H.pick [2,1,3,4,5,6]).Xk [1,0] rfl) ?_;exact QR (J3 y2) [0,1,2,3,4,5]
  refine QN <|QX J1 y2 (ho _ (sj h).symm) [2,4,5]
 refine Qj <|QaF h1 (λ(s2:Int×List QB) (y4:Value)=>[(9,ti s2.1),(8,tv y4),(5,tsl QY t0.1),(6,tsl rS t0.2.1),(2,tptr (Qd.cs x_)),(1,tsl rS names_)]) (λ(s2:Int×List QB) (y4:Value)=>[own QY 183 s2.2 y4]) (.slice none 0 0) [0,1,2,3,4,5] ?_;clear h;intro s2 y4 o K6 h ho k9;refine Qf λ_ k10=>Qa [3,4,5,6,7,8,9] ?_;refine Qn h (λ_ h=>?_) (λ_ h=>?_)
 ·refine Qq <|k10 <|Qf λK7 k11=>Qj ?_;have⟨_,_,_,_,h⟩:=bs2 h;refine Qa [5,7,8,9,10,11,12] ?_;have⟨p4,h8,h⟩:=bs h;have J4:∀(y5:Value),To M w0 84 [(8,tv y5),(9,ti s2.1),(5,tsl QY t0.1),(6,tsl rS t0.2.1),(2,tptr (Qd.cs x_)),(1,tsl rS names_)] [own QY 183 p4 y5] K7:=by
   intro y5;refine k11 <|QJ [2,3,4,5,6,7] ?_;exact QX k9 y5 ((sj h).symm) [0,1,2,3,4,5]
  replace h:=h8;clear h8;refine Qn h (λ_ h=>?_) (λ_ h=>?_)
  ·have⟨t6,_,_,_,h⟩:=bs2 h;refine Qau [v1 6 (λv0=>own QY 183 (s2.2++[t6]) v0)] [7] [6,7,9,10,11,12,13] λm2=>?_;obtain rfl:=sj h;exact QR (J4 (m2 6)) [1,2,3,4,5,6]
  refine Qq ?_;obtain rfl:=sj h;exact QR (J4 y4) [2,1,3,4,5,6]
 refine QN <|QX J0 y4 (ho _ (sj h).symm) [2,5,6]
def Qdt (x_:Qb) (names_:(List Str)):Option (Int):=(Qe8 x_).bind λt0=>(if (t0.2 !=0)=true then (some t0.2) else (QdH x_).bind λt1=>(if (decide ((t1.1.length:Int)>16))=true then (some (4:Int)) else (Ql (λ(s0:Int×Int)=>((if (decide (s0.1<(names_.length:Int)))=true then (Ql (λ(s1:Int)=>((opt ((decide (s1<(t0.1.length:Int)))==true) (idx t0.1 (imin s1 (i64.wrap ((t0.1.length:Int) - 1)))) default).bind λt2=>(opt ((decide (s1<(t0.1.length:Int)))==true) (idx names_ s0.1) default).bind λt3=>(if ((decide (s1<(t0.1.length:Int)))&&(t2 !=t3))=true then (some (.inl (i64.wrap (s1+1)))) else (some (.inr s1))):Option ((Int)⊕((Int))))) s0.2).bind λp0=>(if (decide (p0>=(t0.1.length:Int)))=true then (some (.inr (.inr (12:Int)))) else (some (.inl ((i64.wrap (s0.1+1)),(i64.wrap (p0+1)))))) else (some (.inr (.inl ())))):Option ((Int×Int)⊕((Unit)⊕(Int))))) ((0:Int),(0:Int))).bind λe0=>(match e0 with | .inl _=>(QeQ x_ names_).bind λt4=>(if t4=true then (some (15:Int)) else (Ql (λ(s2:Int)=>((if (decide (s2<(names_.length:Int)))=true then (sub names_ 0 s2).bind λt5=>(rm (([]:List Str).length+t5.length)).bind λ_=>(sub names_ (i64.wrap (s2+1)) (names_.length:Int)).bind λt6=>(rm ((([]:List Str)++t5).length+t6.length)).bind λ_=>(QeQ x_ ((([]:List Str)++t5)++t6)).bind λt7=>(if (!t7)=true then (some (.inr (.inr (15:Int)))) else (some (.inl (i64.wrap (s2+1))))) else (some (.inr (.inl ())))):Option ((Int)⊕((Unit)⊕(Int))))) (0:Int)).bind λe1=>(match e1 with | .inl _=>(some (0:Int)) | .inr p1=>(some p1))) | .inr p2=>(some p2))))
instance QCf:Spc2 prog 12 Qdt (λx_ names_=>[Qd.ty x_,tsl rS names_]) ti:=.mk λ{x_ names_ r} h=>by
 unfold Qdt at h
 refine Fe func12 ntmps12 λM0 M w0 hpl=>?_
 refine Qa [0,3] ?_
 have⟨t0,_,h⟩:=bs h
 refine Qa [5,6,7,8] ?_
 refine tIfs h [1,2,3,4,5] (λ_ h=>?_) (λ_ h=>?_)
 ·refine Qa [1] ?_
  exact Qo h (·▸Qm hpl)
 have⟨t1,h0,h⟩:=bs h
 intro a w H
 refine sr mx [] H (λ_=>.o (Qae Qcm z3)<|.o (QL QnU ((QhC.ok h0).ro (T':=ttup [tsl QY t1.1,tsl rS t1.2.1,ti t1.2.2]) QoC) (.cons (.of z0)<|.nil))<|.q 0 rfl<|.o (Qag z0 rfl)<|.o (Qag z1 rfl)<|.o (Qag z2 rfl)<|.o (Qp z2)<|.o (Qp z2)<|.o (Qp z2)<|.n) λ_ a w H=>?_
 have H:=H.t4_0 [6,10,12,13]
 refine Q6 H ?_
 refine tIfs h [2,4,5,6] (λ_ h=>?_) (λ_ h=>?_)
 ·refine Qa [0] ?_
  exact Qo h (·▸Qm hpl)
 refine Qa [0,2,3,4] ?_
 refine Qf λK0 k0=>?_
 refine Qa [0,1,2,3,4] ?_
 have⟨e0,h1,h⟩:=bs h
 have J0:∀(p0:Unit),(.inl p0)=e0->To M w0 87 [(2,tptr (Qd.cs x_)),(1,tsl rS names_)] [] K0:=by
  intro p0 he;subst he;simp only at h;refine k0 ?_;have⟨_,_,h⟩:=bs h;refine tIfs h [2,3,4] (λ_ h=>?_) (λ_ h=>?_)
  ·refine Qa [0] ?_;exact Qo h (·▸Qm hpl)
  refine Qf λK1 k1=>Qa [0,2,3] ?_;have⟨e1,h2,h⟩:=bs h;have J1:∀(p1:Unit),(.inl p1)=e1->To M w0 87 [] [] K1:=by
   intro p1 he;subst he;simp only at h;refine k1 <|Qa [0] ?_;exact Qo h (·▸Qm hpl)
  have J2:∀(p2:Int),(.inr p2)=e1->To M w0 87 [(4,ti p2)] [] (Ret prog f12 M0 [] w0 (λ_=>[]) (λ_=>ti r) .ret):=by
   intro p2 he;subst he;simp only at h;obtain rfl:=sj h;exact Qm hpl
  refine Qj <|Qai h2 (λ(s0:Int)=>[(12,ti s0),(2,tptr (Qd.cs x_)),(1,tsl rS names_)]) (λ(s0:Int)=>[]) [0,1,2] ?_;clear h;intro s0 o K2 h ho k2;refine Qf λ_ k3=>Qa [3,4,5,6] ?_;refine Qn h (λ_ h=>?_) (λ_ h=>?_)
  ·refine Qq <|k3 <|Qf λ_ k4=>Qj ?_;have⟨t2,h3,_,h4,t3,h5,_,h6,h⟩:=bs4 h;intro a w H;refine sr mx [v1 0 (λv0=>own rS 9 ([]:List Str) v0),v1 4 (λv0=>own rS 9 (([]:List Str)++t2) v0)] H (λ_=>.m [] [0] rfl rfl rfl (Qdb (R:=rS) (us:=([]:List Str)) ud25 tok9 (.nil _) rfl (leb rfl) (leb rfl))<|.q 4 rfl<|.q 3 rfl<|.o (Qjk ud25 tok9 z1 (.no _) (.op z0) h3)<|.e [] [0] [1] rfl rfl rfl rfl (QaD (R:=rS) ud25 tok9 (leb rfl) z3 z0 h4)<|.q 8 rfl<|.q 7 rfl<|.o (QaI z0 .k)<|.o (Qjk ud25 tok9 z2 (.op z0) (.no _) h5)<|.e [] [1] [] rfl rfl rfl rfl (.roE (QaD (R:=rS) ud25 tok9 (leb rfl) z4 z0 h6))<|.o (Qp z0)<|.n) λ_ a w H=>?_;have H:=H.t4_0 [10,12,13,14];refine Q6 H ?_;have⟨_,_,h⟩:=bs h;refine Qa [3,5,6,7] ?_;refine Qn h (λ_ h=>?_) (λ_ h=>?_)
   ·refine Qa [0] ?_;refine Qal ?_;exact Qu J2 (ho _ (sj h).symm) [0]
   refine Qq <|k4 <|QJ [2,4,5] ?_;exact Qu k2 ((sj h).symm) [0,1,2]
  refine QN <|Qu J1 (ho _ (sj h).symm) []
 have J3:∀(p3:Int),(.inr p3)=e0->To M w0 87 [(4,ti p3)] [] (Ret prog f12 M0 [] w0 (λ_=>[]) (λ_=>ti r) .ret):=by
  intro p3 he;subst he;simp only at h;obtain rfl:=sj h;exact Qm hpl
 refine Qj <|Qai h1 (λ(s1:Int×Int)=>[(11,ti s1.1),(10,ti s1.2),(5,tsl rS t0.1),(2,tptr (Qd.cs x_)),(1,tsl rS names_)]) (λ(s1:Int×Int)=>[]) [0,1,2,3,4] ?_;clear h;intro s1 o K3 h ho k5;refine Qf λ_ k6=>Qa [3,4,5,6,7,8] ?_;refine Qn h (λ_ h=>?_) (λ_ h=>?_)
 ·refine Qq <|k6 <|Qf λ_ k7=>Qj <|Qf λK4 k8=>?_;have⟨e2,h7,h⟩:=bs h;have J4:∀(p4:Int),p4=e2->To M w0 87 [(11,ti s1.1),(10,ti p4),(5,tsl rS t0.1),(2,tptr (Qd.cs x_)),(1,tsl rS names_)] [] K4:=by
   intro p4 he;subst he;refine k8 <|tIfs h [3,4,5,6,7,8] (λ_ h=>?_) (λ_ h=>?_)
   ·refine Qa [0] ?_;refine Qal ?_;exact Qu J3 (ho _ (sj h).symm) [0]
   refine QJ [2,4,5,6,7] ?_;refine k7 <|QJ [2,3,4,5,6] ?_;exact Qu k5 ((sj h).symm) [0,1,2,3,4]
  refine Qj <|Qai h7 (λ(s2:Int)=>[(11,ti s1.1),(10,ti s2),(5,tsl rS t0.1),(2,tptr (Qd.cs x_)),(1,tsl rS names_)]) (λ(s2:Int)=>[]) [1,2,3,4,5] ?_;clear h;intro s2 o K5 h ho k9;refine Qf λ_ k10=>?_;have⟨_,_,_,_,h⟩:=bs2 h;refine Qa [18,19,20,21,22,23] ?_;refine Qn h (λ_ h=>?_) (λ_ h=>?_)
  ·refine Qq <|k10 <|Qj <|QJ [2,4,5,6,7] ?_;exact Qu k9 ((sj h).symm) [1,0,2,3,4]
  refine QN <|Qu J4 (ho _ (sj h).symm) [1,2,3,4,5]
 refine QN <|Qu J0 (ho _ (sj h).symm) [4,5]
