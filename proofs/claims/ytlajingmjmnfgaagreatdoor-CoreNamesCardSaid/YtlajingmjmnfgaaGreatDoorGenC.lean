/- The walk. No condition. -/
import Derived.Test.YtlajingmjmnfgaaGreatDoorGenB
set_option linter.all false
open Go.Proofs.Tryz Go.IntKind
namespace Go.Proofs.YtlajingmjmnfgaaGreatDoor
noncomputable section
open Go.Sim
set_option maxRecDepth 100000
set_option maxHeartbeats 4000000
def Qby (s_:(List Int)) (f_:(Int->Option Bool)):Option (Int):=(Qu (λ(s0:Int)=>((if (decide (s0<(s_.length:Int)))=true then (idx s_ s0).bind λt0=>(f_ t0).bind λt1=>(if t1=true then (some (.inr (.inr s0))) else (some (.inl (i64.wrap (s0+1))))) else (some (.inr (.inl ())))):Option ((Int)⊕((Unit)⊕(Int))))) (0:Int)).bind λe0=>(match e0 with | .inl _=>(some (-1:Int)) | .inr p0=>(some p0))
instance QqT:Spc2 prog 221 Qby (λs_ f_=>[tsl (rInt .u8) s_,Qn9.ty f_]) ti:=.mk λ{s_ f_ r} h=>by
 unfold Qby at h
 refine Fe func221 ntmps221 λM0 M w0 hpl=>?_
 refine Qa [1,2] ?_
 refine Qi λK0 k0=>?_
 refine Qa [1,2,3,4] ?_
 have⟨e0,h0,h⟩:=bs h
 have J0:∀(p0:Unit),(.inl p0)=e0->To M w0 19 [] [] K0:=by
  intro p0 he;subst he;simp only at h;refine k0 <|Qa [0] ?_;exact Qo h (·▸Ql hpl)
 have J1:∀(p1:Int),(.inr p1)=e0->To M w0 19 [(4,ti p1)] [] (Ret prog f221 M0 [] w0 (λ_=>[]) (λ_=>ti r) .ret):=by
  intro p1 he;subst he;simp only at h;obtain rfl:=sj h;exact Ql hpl
 refine Qm <|Qan h0 (λ(s0:Int)=>[(7,ti (s_.length:Int)),(8,ti s0),(0,tsl (rInt .u8) s_),(1,Qn9.ty f_)]) (λ(s0:Int)=>[]) [0,1,2,3] ?_;clear h;intro s0 o K1 h ho k1;refine Qa [0,1,2,3,4] ?_;refine Qi λ_ k2=>Qq h (λ_ h=>?_) (λ_ h=>?_)
 ·refine Qt <|k2 <|Qi λ_ k3=>Qm <|Qa [1,3,4,5,6] ?_;have⟨_,_,_,_,h⟩:=bs2 h;refine Qa [5,6,7,8,9,10] ?_;refine Qq h (λ_ h=>?_) (λ_ h=>?_)
  ·refine Qa [1] ?_;refine Qap ?_;exact Qz J1 (ho _ (sj h).symm) [0]
  refine Qt <|k3 <|QL [1,4,5,6] ?_;exact Qz k1 ((sj h).symm) [1,0,2,3]
 refine QP <|Qz J0 (ho _ (sj h).symm) []
def Qa8 (s_:(List Int)) (f_:(Int->Option Bool)):Option (Bool):=(Qby s_ f_).bind λt0=>(some (decide (t0>=0)))
instance Qjl:Spc2 prog 195 Qa8 (λs_ f_=>[tsl (rInt .u8) s_,Qn9.ty f_]) tb:=.mk λ{s_ f_ r} h=>by
 unfold Qa8 at h
 refine Fe func195 ntmps195 λM0 M w0 hpl=>?_
 refine Qa [1,2] ?_
 have⟨_,_,h⟩:=bs h
 refine Qa [4] ?_
 exact Qo h (·▸Ql hpl)
def Qe8 (c_:Int):Option (Bool):=(some ((decide (c_>=48))&&(decide (c_<=57))))
instance QvC:Spc1 prog 197 Qe8 (λc_=>[tv (.int .u8 c_)]) tb:=.mk λ{c_ r} h=>by
 unfold Qe8 at h
 refine Fe func197 ntmps197 λM0 M w0 hpl=>?_
 refine Qa [1] ?_
 refine Qa [6] ?_
 exact Qo h (·▸Ql hpl)
def QeJ (c_:Int):Option (Bool):=(QcN c_).bind λt0=>(opt ((!t0)==true) (Qe8 c_) default).bind λt1=>(some ((!t0)&&(!t1)))
instance QmA:Spc1 prog 196 QeJ (λc_=>[tv (.int .u8 c_)]) tb:=.mk λ{c_ r} h=>by
 unfold QeJ at h
 refine Fe func196 ntmps196 λM0 M w0 hpl=>?_
 refine Qa [1] ?_
 have⟨_,_,_,_,h⟩:=bs2 h
 refine Qa [8] ?_
 exact Qo h (·▸Ql hpl)
def Qaj (s_:Str):Option (Bool):=(QaZ (s_.length:Int) 1 12).bind λt0=>(opt ((!t0)==false) (idx s_ 0) default).bind λt1=>(opt ((!t0)==false) (QcN (t1.toNat:Int)) default).bind λt2=>(if ((!t0)||(!t2))=true then (some false) else (Qa8 (QZ s_) (λx0=>QeJ x0)).bind λt3=>(some (!t3)))
instance QwC:Spc1 prog 163 Qaj (λs_=>[tv (.string (sB s_))]) tb:=.mk λ{s_ r} h=>by
 unfold Qaj at h
 refine Fe func163 ntmps163 λM0 M w0 hpl=>?_
 refine Qa [1] ?_
 have⟨_,_,_,_,_,_,h⟩:=bs3 h
 refine tIfs h [9,10] (λ_ h=>?_) (λ_ h=>?_)
 ·refine Qa [0] ?_
  exact Qo h (·▸Ql hpl)
 have⟨t0,h0,h⟩:=bs h
 intro a w H
 refine sr mx [] H (λ_=>.q 1 rfl<|.o (op_s2b ud9 Qob ud5 z0)<|.o (QJ Qr5 (Qjl.ok h0) (.cons (.of z0)<|.cons (.of (Fct.Xp .fnE (Qe2 Qr6 (λ_ _ hq=>QmA.ok hq))))<|.nil))<|.o (QgK z0)<|.o (Qp z0)<|.n) λ_ a w H=>?_
 have H:=H.t1_0 [4]
 refine Q8 H ?_
 exact Qo h (·▸Ql hpl)
def QcE (lo_:Int) (hi_:Int) (least_:Int) (most_:Int):Option (Bool):=(some (((decide (lo_>=least_))&&(decide (lo_<=hi_)))&&(decide (hi_<=most_))))
instance Qzy:Spc4 prog 164 QcE (λlo_ hi_ least_ most_=>[ti lo_,ti hi_,ti least_,ti most_]) tb:=.mk λ{lo_ hi_ least_ most_ r} h=>by
 unfold QcE at h
 refine Fe func164 ntmps164 λM0 M w0 hpl=>?_
 refine Qa [1,2,3,4] ?_
 refine Qa [13] ?_
 exact Qo h (·▸Ql hpl)
def Qdw (x_:Qb) (c0_:(Qb->Option Bool)):Option (Bool):=(c0_ x_).bind λt0=>(some (!t0))
instance Qsi:Spc2 prog 199 Qdw (λx_ c0_=>[Qd.ty x_,tptr (QlI.cs c0_)]) tb:=.mk λ{x_ c0_ r} h=>by
 unfold Qdw at h
 refine Fe func199 ntmps199 λM0 M w0 hpl=>?_
 refine Qa [0,3] ?_
 have⟨_,_,h⟩:=bs h
 refine Qa [4] ?_
 exact Qo h (·▸Ql hpl)
def Qa5 (s_:(List Qb)) (f_:(Qb->Option Bool)):Option (Int):=(Qu (λ(s0:Int)=>((if (decide (s0<(s_.length:Int)))=true then (idx s_ s0).bind λt0=>(f_ t0).bind λt1=>(if t1=true then (some (.inr (.inr s0))) else (some (.inl (i64.wrap (s0+1))))) else (some (.inr (.inl ())))):Option ((Int)⊕((Unit)⊕(Int))))) (0:Int)).bind λe0=>(match e0 with | .inl _=>(some (-1:Int)) | .inr p0=>(some p0))
instance Qp7:Spc2 prog 128 Qa5 (λs_ f_=>[tsl Qd s_,QlI.ty f_]) ti:=.mk λ{s_ f_ r} h=>by
 unfold Qa5 at h
 refine Fe func128 ntmps128 λM0 M w0 hpl=>?_
 refine Qa [1,2] ?_
 refine Qi λK0 k0=>?_
 refine Qa [1,2,3,4] ?_
 have⟨e0,h0,h⟩:=bs h
 have J0:∀(p0:Unit),(.inl p0)=e0->To M w0 19 [] [] K0:=by
  intro p0 he;subst he;simp only at h;refine k0 <|Qa [0] ?_;exact Qo h (·▸Ql hpl)
 have J1:∀(p1:Int),(.inr p1)=e0->To M w0 19 [(4,ti p1)] [] (Ret prog f128 M0 [] w0 (λ_=>[]) (λ_=>ti r) .ret):=by
  intro p1 he;subst he;simp only at h;obtain rfl:=sj h;exact Ql hpl
 refine Qm <|Qan h0 (λ(s0:Int)=>[(7,ti (s_.length:Int)),(8,ti s0),(0,tsl Qd s_),(1,QlI.ty f_)]) (λ(s0:Int)=>[]) [0,1,2,3] ?_;clear h;intro s0 o K1 h ho k1;refine Qa [0,1,2,3,4] ?_;refine Qi λ_ k2=>Qq h (λ_ h=>?_) (λ_ h=>?_)
 ·refine Qt <|k2 <|Qi λ_ k3=>Qm <|Qa [1,3,4,5,6] ?_;have⟨_,_,_,_,h⟩:=bs2 h;refine Qa [5,6,7,8,9,10] ?_;refine Qq h (λ_ h=>?_) (λ_ h=>?_)
  ·refine Qa [1] ?_;refine Qap ?_;exact Qz J1 (ho _ (sj h).symm) [0]
  refine Qt <|k3 <|QL [1,4,5,6] ?_;exact Qz k1 ((sj h).symm) [1,0,2,3]
 refine QP <|Qz J0 (ho _ (sj h).symm) []
def Qa2 (s_:(List Qb)) (f_:(Qb->Option Bool)):Option (Bool):=(Qa5 s_ f_).bind λt0=>(some (decide (t0>=0)))
instance QoQ:Spc2 prog 198 Qa2 (λs_ f_=>[tsl Qd s_,QlI.ty f_]) tb:=.mk λ{s_ f_ r} h=>by
 unfold Qa2 at h
 refine Fe func198 ntmps198 λM0 M w0 hpl=>?_
 refine Qa [1,2] ?_
 have⟨_,_,h⟩:=bs h
 refine Qa [4] ?_
 exact Qo h (·▸Ql hpl)
def Qcu (l_:(List Qb)) (right_:(Qb->Option Bool)):Option (Bool):=(Qa2 l_ (λx0=>Qdw x0 right_)).bind λt0=>(some (!t0))
instance Qty:Spc2 prog 165 Qcu (λl_ right_=>[tsl Qd l_,QlI.ty right_]) tb:=.mk λ{l_ right_ r} h=>by
 unfold Qcu at h
 refine Fe func165 ntmps165 λM0 M w0 hpl=>?_
 refine Qa [0,2] ?_
 have⟨_,_,h⟩:=bs h
 refine Qa [4] ?_
 exact Qo h (·▸Ql hpl)
def QeK (f_:Qb):Option (Qb):=((if (f_.Xi==0)=true then (some (Qb.mk f_.Xj ([]:Str) ([]:Str) f_.Xi f_.Lo 0 ([]:(List Str)) ([]:(List Int)))) else ((if (f_.Xi==1)=true then (some (f_.Xi==1)) else ((if (f_.Xi==4)=true then (some (f_.Xi==4)) else (some (f_.Xi==5)))).bind λp0=>(some p0))).bind λp1=>((if p1=true then (some (Qb.mk f_.Xj f_.Of ([]:Str) f_.Xi f_.Lo f_.Hi ([]:(List Str)) ([]:(List Int)))) else ((if (f_.Xi==2)=true then (some (Qb.mk f_.Xj ([]:Str) ([]:Str) f_.Xi f_.Lo f_.Hi ([]:(List Str)) ([]:(List Int)))) else ((if (f_.Xi==3)=true then (some (Qb.mk f_.Xj ([]:Str) ([]:Str) f_.Xi 0 0 f_.Words f_.Xf)) else ((if (f_.Xi==6)=true then (some (Qb.mk f_.Xj f_.Of ([]:Str) f_.Xi 0 0 ([]:(List Str)) ([]:(List Int)))) else ((if (f_.Xi==7)=true then (some (Qb.mk f_.Xj f_.Of f_.Up f_.Xi f_.Lo f_.Hi ([]:(List Str)) ([]:(List Int)))) else ((if (f_.Xi==8)=true then (some (Qb.mk f_.Xj f_.Of f_.Up f_.Xi 0 0 ([]:(List Str)) ([]:(List Int)))) else (some (Qb.mk f_.Xj ([]:Str) ([]:Str) f_.Xi 0 0 ([]:(List Str)) ([]:(List Int)))))).bind λp2=>(some p2))).bind λp3=>(some p3))).bind λp4=>(some p4))).bind λp5=>(some p5))).bind λp6=>(some p6))).bind λp7=>(some p7))).bind λp8=>(some p8)
instance Qzz:Spc1 prog 200 QeK (λf_=>[Qd.ty f_]) Qd.ty:=.mk λ{f_ r} h=>by
 unfold QeK at h
 refine Fe func200 ntmps200 λM0 M w0 hpl=>?_
 refine QB [v1 1 (λv0=>box (Qd.cs zz0) v0)] [2] [0,1] λm0=>?_
 refine QB [v1 5 (λv0=>box (Qd.cs zz0) v0),v1 5 (λv0=>box (Qd.cs (Qb.mk f_.Xj ([]:Str) ([]:Str) f_.Xi (0:Int) (0:Int) ([]:(List Str)) ([]:(List Int)))) v0)] [6,7] [5,6,7] λm1=>?_
 refine Qi λK0 k0=>?_
 refine Qa [1,2,3,4] ?_
 refine Qm ?_
 refine Qa [1,2,3,4,5] ?_
 have⟨p0,h0,h⟩:=bs h
 have J0:To M w0 73 [(3,tv (m1 5)),(2,tv (m0 1))] [box (Qd.cs zz0) (m0 1),box (Qd.cs p0) (m1 5)] K0:=by
  refine k0 <|QB [v0 (box (Qd.cs p0) (m0 1))] [2] [2] λm2=>?_;refine QN (λ_ _ H=>H.Xk [1] rfl) ?_;exact Qo h (·▸Ql hpl)
 replace h:=h0;clear h0;refine Qq h (λ_ h=>?_) (λ_ h=>?_)
 ·refine Qah [v0 (box (Qd.cs (Qb.mk f_.Xj ([]:Str) ([]:Str) f_.Xi f_.Lo (0:Int) ([]:(List Str)) ([]:(List Int)))) (m1 5))] [4] [5,7] λm3=>?_;obtain rfl:=sj h;exact QI J0 [0,1]
 refine Qi λK1 k1=>Qa [1,3,4,5,6] ?_;have⟨p1,h1,h⟩:=bs h;have J1:To M w0 73 [(16,tb p1),(10,ti f_.Xi),(3,tv (m1 5)),(1,tptr (Qd.cs f_)),(2,tv (m0 1))] [box (Qd.cs zz0) (m0 1),box (Qd.cs (Qb.mk f_.Xj ([]:Str) ([]:Str) f_.Xi (0:Int) (0:Int) ([]:(List Str)) ([]:(List Int)))) (m1 5)] K1:=by
  refine k1 ?_;have⟨p2,h2,h⟩:=bs h;have J2:To M w0 73 [(3,tv (m1 5)),(2,tv (m0 1))] [box (Qd.cs zz0) (m0 1),box (Qd.cs p2) (m1 5)] K0:=by
   obtain rfl:=sj h;exact QI J0 [0,1]
  replace h:=h2;clear h2;refine Qq h (λ_ h=>?_) (λ_ h=>?_)
  ·refine Qah [v0 (box (Qd.cs (Qb.mk f_.Xj f_.Of ([]:Str) f_.Xi (0:Int) (0:Int) ([]:(List Str)) ([]:(List Int)))) (m1 5)),v0 (box (Qd.cs (Qb.mk f_.Xj f_.Of ([]:Str) f_.Xi f_.Lo (0:Int) ([]:(List Str)) ([]:(List Int)))) (m1 5)),v0 (box (Qd.cs (Qb.mk f_.Xj f_.Of ([]:Str) f_.Xi f_.Lo f_.Hi ([]:(List Str)) ([]:(List Int)))) (m1 5))] [8,10,12] [11,13] λm4=>?_;obtain rfl:=sj h;exact QI J2 [0,1]
  refine Qa [1,3,4,5,6] ?_;have⟨p3,h3,h⟩:=bs h;have J3:To M w0 73 [(3,tv (m1 5)),(2,tv (m0 1))] [box (Qd.cs zz0) (m0 1),box (Qd.cs p3) (m1 5)] K0:=by
   obtain rfl:=sj h;exact QI J2 [0,1]
  replace h:=h3;clear h3;refine Qq h (λ_ h=>?_) (λ_ h=>?_)
  ·refine Qah [v0 (box (Qd.cs (Qb.mk f_.Xj ([]:Str) ([]:Str) f_.Xi f_.Lo (0:Int) ([]:(List Str)) ([]:(List Int)))) (m1 5)),v0 (box (Qd.cs (Qb.mk f_.Xj ([]:Str) ([]:Str) f_.Xi f_.Lo f_.Hi ([]:(List Str)) ([]:(List Int)))) (m1 5))] [6,8] [8,10] λm5=>?_;obtain rfl:=sj h;exact QI J3 [0,1]
  refine Qa [1,3,4,5,6] ?_;have⟨p4,h4,h⟩:=bs h;have J4:To M w0 73 [(3,tv (m1 5)),(2,tv (m0 1))] [box (Qd.cs zz0) (m0 1),box (Qd.cs p4) (m1 5)] K0:=by
   obtain rfl:=sj h;exact QI J3 [0,1]
  replace h:=h4;clear h4;refine Qq h (λ_ h=>?_) (λ_ h=>?_)
  ·refine Qah [v0 (box (Qd.cs (Qb.mk f_.Xj ([]:Str) ([]:Str) f_.Xi (0:Int) (0:Int) f_.Words ([]:(List Int)))) (m1 5)),v0 (box (Qd.cs (Qb.mk f_.Xj ([]:Str) ([]:Str) f_.Xi (0:Int) (0:Int) f_.Words f_.Xf)) (m1 5))] [6,8] [8,10] λm6=>?_;obtain rfl:=sj h;exact QI J4 [0,1]
  refine Qa [1,3,4,5,6] ?_;have⟨p5,h5,h⟩:=bs h;have J5:To M w0 73 [(3,tv (m1 5)),(2,tv (m0 1))] [box (Qd.cs zz0) (m0 1),box (Qd.cs p5) (m1 5)] K0:=by
   obtain rfl:=sj h;exact QI J4 [0,1]
  replace h:=h5;clear h5;refine Qq h (λ_ h=>?_) (λ_ h=>?_)
  ·refine Qah [v0 (box (Qd.cs (Qb.mk f_.Xj f_.Of ([]:Str) f_.Xi (0:Int) (0:Int) ([]:(List Str)) ([]:(List Int)))) (m1 5))] [4] [5,7] λm7=>?_;obtain rfl:=sj h;exact QI J5 [0,1]
  refine Qa [1,3,4,5,6] ?_;have⟨p6,h6,h⟩:=bs h;have J6:To M w0 73 [(3,tv (m1 5)),(2,tv (m0 1))] [box (Qd.cs zz0) (m0 1),box (Qd.cs p6) (m1 5)] K0:=by
   obtain rfl:=sj h;exact QI J5 [0,1]
  replace h:=h6;clear h6;refine Qq h (λ_ h=>?_) (λ_ h=>?_)
  ·refine Qah [v0 (box (Qd.cs (Qb.mk f_.Xj f_.Of ([]:Str) f_.Xi (0:Int) (0:Int) ([]:(List Str)) ([]:(List Int)))) (m1 5)),v0 (box (Qd.cs (Qb.mk f_.Xj f_.Of f_.Up f_.Xi (0:Int) (0:Int) ([]:(List Str)) ([]:(List Int)))) (m1 5)),v0 (box (Qd.cs (Qb.mk f_.Xj f_.Of f_.Up f_.Xi f_.Lo (0:Int) ([]:(List Str)) ([]:(List Int)))) (m1 5)),v0 (box (Qd.cs (Qb.mk f_.Xj f_.Of f_.Up f_.Xi f_.Lo f_.Hi ([]:(List Str)) ([]:(List Int)))) (m1 5))] [10,12,14,16] [14,16] λm8=>?_;obtain rfl:=sj h;exact QI J6 [0,1]
  refine Qa [1,4,5,6] ?_;have⟨p7,h7,h⟩:=bs h;have J7:To M w0 73 [(3,tv (m1 5)),(2,tv (m0 1))] [box (Qd.cs zz0) (m0 1),box (Qd.cs p7) (m1 5)] K0:=by
   obtain rfl:=sj h;exact QI J6 [0,1]
  replace h:=h7;clear h7;refine Qq h (λ_ h=>?_) (λ_ h=>?_)
  ·refine Qah [v0 (box (Qd.cs (Qb.mk f_.Xj f_.Of ([]:Str) f_.Xi (0:Int) (0:Int) ([]:(List Str)) ([]:(List Int)))) (m1 5)),v0 (box (Qd.cs (Qb.mk f_.Xj f_.Of f_.Up f_.Xi (0:Int) (0:Int) ([]:(List Str)) ([]:(List Int)))) (m1 5))] [6,8] [7,9] λm9=>?_;obtain rfl:=sj h;exact QI J7 [0,1]
  refine Qt ?_;obtain rfl:=sj h;exact QI J7 [1,3]
 replace h:=h1;clear h1;refine Qq h (λ_ h=>?_) (λ_ h=>?_)
 ·refine Qt ?_;obtain rfl:=sj h;exact QI J1 [0,1,2,3,4]
 refine Qa [1,2,3,4,5] ?_;have⟨p8,h8,h⟩:=bs h;have J8:To M w0 73 [(16,tb p8),(10,ti f_.Xi),(3,tv (m1 5)),(1,tptr (Qd.cs f_)),(2,tv (m0 1))] [box (Qd.cs zz0) (m0 1),box (Qd.cs (Qb.mk f_.Xj ([]:Str) ([]:Str) f_.Xi (0:Int) (0:Int) ([]:(List Str)) ([]:(List Int)))) (m1 5)] K1:=by
  obtain rfl:=sj h;exact QI J1 [0,1,2,3,4]
 replace h:=h8;clear h8;refine Qq h (λ_ h=>?_) (λ_ h=>?_)
 ·refine Qt ?_;obtain rfl:=sj h;exact QI J8 [0,1,2,3,4]
 refine QL [1,2,3,4,5] ?_;obtain rfl:=sj h;exact QI J8 [0,1,2,3,4]
def Qbt (s1_:(List Str)) (s2_:(List Str)):Option (Bool):=(if ((s1_.length:Int) !=(s2_.length:Int))=true then (some false) else (Qu (λ(s0:Int)=>((if (decide (s0<(s1_.length:Int)))=true then (idx s1_ s0).bind λt0=>(idx s2_ s0).bind λt1=>(if (t0 !=t1)=true then (some (.inr (.inr false))) else (some (.inl (i64.wrap (s0+1))))) else (some (.inr (.inl ())))):Option ((Int)⊕((Unit)⊕(Bool))))) (0:Int)).bind λe0=>(match e0 with | .inl _=>(some true) | .inr p0=>(some p0)))
instance Qrv:Spc2 prog 70 Qbt (λs1_ s2_=>[tsl rS s1_,tsl rS s2_]) tb:=.mk λ{s1_ s2_ r} h=>by
 unfold Qbt at h
 refine Fe func70 ntmps70 λM0 M w0 hpl=>?_
 refine Qa [1,2] ?_
 refine tIfs h [4,5,6] (λ_ h=>?_) (λ_ h=>?_)
 ·refine Qa [0] ?_
  exact Qo h (·▸Ql hpl)
 refine Qi λK0 k0=>?_
 refine Qa [1,2,4,5] ?_
 have⟨e0,h0,h⟩:=bs h
 have J0:∀(p0:Unit),(.inl p0)=e0->To M w0 26 [] [] K0:=by
  intro p0 he;subst he;simp only at h;refine k0 <|Qa [0] ?_;exact Qo h (·▸Ql hpl)
 have J1:∀(p1:Bool),(.inr p1)=e0->To M w0 26 [(4,tb p1)] [] (Ret prog f70 M0 [] w0 (λ_=>[]) (λ_=>tb r) .ret):=by
  intro p1 he;subst he;simp only at h;obtain rfl:=sj h;exact Ql hpl
 refine Qm <|Qan h0 (λ(s0:Int)=>[(12,ti (s1_.length:Int)),(13,ti s0),(0,tsl rS s1_),(1,tsl rS s2_)]) (λ(s0:Int)=>[]) [0,1,2,3] ?_;clear h;intro s0 o K1 h ho k1;refine Qa [0,1,2,3,4] ?_;refine Qi λ_ k2=>Qq h (λ_ h=>?_) (λ_ h=>?_)
 ·refine Qt <|k2 <|Qi λ_ k3=>Qm <|Qa [1,3,4,5,6] ?_;have⟨_,_,_,_,h⟩:=bs2 h;refine Qa [8,10,11,12,13] ?_;refine Qq h (λ_ h=>?_) (λ_ h=>?_)
  ·refine Qa [0] ?_;refine Qap ?_;exact Qz J1 (ho _ (sj h).symm) [0]
  refine Qt <|k3 <|QL [1,3,4,5] ?_;exact Qz k1 ((sj h).symm) [1,0,2,3]
 refine QP <|Qz J0 (ho _ (sj h).symm) []
def Qcv (s1_:(List Int)) (s2_:(List Int)):Option (Bool):=(if ((s1_.length:Int) !=(s2_.length:Int))=true then (some false) else (Qu (λ(s0:Int)=>((if (decide (s0<(s1_.length:Int)))=true then (idx s1_ s0).bind λt0=>(idx s2_ s0).bind λt1=>(if (t0 !=t1)=true then (some (.inr (.inr false))) else (some (.inl (i64.wrap (s0+1))))) else (some (.inr (.inl ())))):Option ((Int)⊕((Unit)⊕(Bool))))) (0:Int)).bind λe0=>(match e0 with | .inl _=>(some true) | .inr p0=>(some p0)))
instance Qtz:Spc2 prog 114 Qcv (λs1_ s2_=>[tsl rI s1_,tsl rI s2_]) tb:=.mk λ{s1_ s2_ r} h=>by
 unfold Qcv at h
 refine Fe func114 ntmps114 λM0 M w0 hpl=>?_
 refine Qa [1,2] ?_
 refine tIfs h [4,5,6] (λ_ h=>?_) (λ_ h=>?_)
 ·refine Qa [0] ?_
  exact Qo h (·▸Ql hpl)
 refine Qi λK0 k0=>?_
 refine Qa [1,2,4,5] ?_
 have⟨e0,h0,h⟩:=bs h
 have J0:∀(p0:Unit),(.inl p0)=e0->To M w0 26 [] [] K0:=by
  intro p0 he;subst he;simp only at h;refine k0 <|Qa [0] ?_;exact Qo h (·▸Ql hpl)
 have J1:∀(p1:Bool),(.inr p1)=e0->To M w0 26 [(4,tb p1)] [] (Ret prog f114 M0 [] w0 (λ_=>[]) (λ_=>tb r) .ret):=by
  intro p1 he;subst he;simp only at h;obtain rfl:=sj h;exact Ql hpl
 refine Qm <|Qan h0 (λ(s0:Int)=>[(12,ti (s1_.length:Int)),(13,ti s0),(0,tsl rI s1_),(1,tsl rI s2_)]) (λ(s0:Int)=>[]) [0,1,2,3] ?_;clear h;intro s0 o K1 h ho k1;refine Qa [0,1,2,3,4] ?_;refine Qi λ_ k2=>Qq h (λ_ h=>?_) (λ_ h=>?_)
 ·refine Qt <|k2 <|Qi λ_ k3=>Qm <|Qa [1,3,4,5,6] ?_;have⟨_,_,_,_,h⟩:=bs2 h;refine Qa [8,10,11,12,13] ?_;refine Qq h (λ_ h=>?_) (λ_ h=>?_)
  ·refine Qa [0] ?_;refine Qap ?_;exact Qz J1 (ho _ (sj h).symm) [0]
  refine Qt <|k3 <|QL [1,3,4,5] ?_;exact Qz k1 ((sj h).symm) [1,0,2,3]
 refine QP <|Qz J0 (ho _ (sj h).symm) []
def QbE (a_:Qb) (b_:Qb):Option (Bool):=(opt (((((((a_.Xj==b_.Xj)&&(a_.Of==b_.Of))&&(a_.Up==b_.Up))&&(a_.Xi==b_.Xi))&&(a_.Lo==b_.Lo))&&(a_.Hi==b_.Hi))==true) (Qbt a_.Words b_.Words) default).bind λt0=>(opt ((((((((a_.Xj==b_.Xj)&&(a_.Of==b_.Of))&&(a_.Up==b_.Up))&&(a_.Xi==b_.Xi))&&(a_.Lo==b_.Lo))&&(a_.Hi==b_.Hi))&&t0)==true) (Qcv a_.Xf b_.Xf) default).bind λt1=>(some ((((((((a_.Xj==b_.Xj)&&(a_.Of==b_.Of))&&(a_.Up==b_.Up))&&(a_.Xi==b_.Xi))&&(a_.Lo==b_.Lo))&&(a_.Hi==b_.Hi))&&t0)&&t1))
instance QtA:Spc2 prog 67 QbE (λa_ b_=>[Qd.ty a_,Qd.ty b_]) tb:=.mk λ{a_ b_ r} h=>by
 unfold QbE at h
 refine Fe func67 ntmps67 λM0 M w0 hpl=>?_
 refine Qa [0,1] ?_
 have⟨_,_,_,_,h⟩:=bs2 h
 refine Qa [54] ?_
 exact Qo h (·▸Ql hpl)
def Qdc (x_:Str) (c0_:(Str->Option Bool)):Option (Bool):=(c0_ x_).bind λt0=>(some (!t0))
instance Qrw:Spc2 prog 203 Qdc (λx_ c0_=>[tv (.string (sB x_)),tptr (QlJ.cs c0_)]) tb:=.mk λ{x_ c0_ r} h=>by
 unfold Qdc at h
 refine Fe func203 ntmps203 λM0 M w0 hpl=>?_
 refine Qa [1,2] ?_
 have⟨_,_,h⟩:=bs h
 refine Qa [4] ?_
 exact Qo h (·▸Ql hpl)
def Qbf (s_:(List Str)) (f_:(Str->Option Bool)):Option (Int):=(Qu (λ(s0:Int)=>((if (decide (s0<(s_.length:Int)))=true then (idx s_ s0).bind λt0=>(f_ t0).bind λt1=>(if t1=true then (some (.inr (.inr s0))) else (some (.inl (i64.wrap (s0+1))))) else (some (.inr (.inl ())))):Option ((Int)⊕((Unit)⊕(Int))))) (0:Int)).bind λe0=>(match e0 with | .inl _=>(some (-1:Int)) | .inr p0=>(some p0))
instance QpJ:Spc2 prog 222 Qbf (λs_ f_=>[tsl rS s_,QlJ.ty f_]) ti:=.mk λ{s_ f_ r} h=>by
 unfold Qbf at h
 refine Fe func222 ntmps222 λM0 M w0 hpl=>?_
 refine Qa [1,2] ?_
 refine Qi λK0 k0=>?_
 refine Qa [1,2,3,4] ?_
 have⟨e0,h0,h⟩:=bs h
 have J0:∀(p0:Unit),(.inl p0)=e0->To M w0 19 [] [] K0:=by
  intro p0 he;subst he;simp only at h;refine k0 <|Qa [0] ?_;exact Qo h (·▸Ql hpl)
 have J1:∀(p1:Int),(.inr p1)=e0->To M w0 19 [(4,ti p1)] [] (Ret prog f222 M0 [] w0 (λ_=>[]) (λ_=>ti r) .ret):=by
  intro p1 he;subst he;simp only at h;obtain rfl:=sj h;exact Ql hpl
 refine Qm <|Qan h0 (λ(s0:Int)=>[(7,ti (s_.length:Int)),(8,ti s0),(0,tsl rS s_),(1,QlJ.ty f_)]) (λ(s0:Int)=>[]) [0,1,2,3] ?_;clear h;intro s0 o K1 h ho k1;refine Qa [0,1,2,3,4] ?_;refine Qi λ_ k2=>Qq h (λ_ h=>?_) (λ_ h=>?_)
 ·refine Qt <|k2 <|Qi λ_ k3=>Qm <|Qa [1,3,4,5,6] ?_;have⟨_,_,_,_,h⟩:=bs2 h;refine Qa [5,6,7,8,9,10] ?_;refine Qq h (λ_ h=>?_) (λ_ h=>?_)
  ·refine Qa [1] ?_;refine Qap ?_;exact Qz J1 (ho _ (sj h).symm) [0]
  refine Qt <|k3 <|QL [1,4,5,6] ?_;exact Qz k1 ((sj h).symm) [1,0,2,3]
 refine QP <|Qz J0 (ho _ (sj h).symm) []
def QaV (s_:(List Str)) (f_:(Str->Option Bool)):Option (Bool):=(Qbf s_ f_).bind λt0=>(some (decide (t0>=0)))
instance QoA:Spc2 prog 202 QaV (λs_ f_=>[tsl rS s_,QlJ.ty f_]) tb:=.mk λ{s_ f_ r} h=>by
 unfold QaV at h
 refine Fe func202 ntmps202 λM0 M w0 hpl=>?_
 refine Qa [1,2] ?_
 have⟨_,_,h⟩:=bs h
 refine Qa [4] ?_
 exact Qo h (·▸Ql hpl)
def QbM (l_:(List Str)) (right_:(Str->Option Bool)):Option (Bool):=(QaV l_ (λx0=>Qdc x0 right_)).bind λt0=>(some (!t0))
instance Qs5:Spc2 prog 168 QbM (λl_ right_=>[tsl rS l_,QlJ.ty right_]) tb:=.mk λ{l_ right_ r} h=>by
 unfold QbM at h
 refine Fe func168 ntmps168 λM0 M w0 hpl=>?_
 refine Qa [0,2] ?_
 have⟨_,_,h⟩:=bs h
 refine Qa [4] ?_
 exact Qo h (·▸Ql hpl)
def Qcp (words_:(List Str)) (weights_:(List Int)):Option (Bool):=(Qu (λ(s0:Int×Int)=>((if (decide (s0.1<(weights_.length:Int)))=true then (idx weights_ s0.1).bind λt0=>(QaZ t0 0 1048576).bind λt1=>(if (!t1)=true then (some (.inr (.inr false))) else (some (.inl ((i64.wrap (s0.1+1)),(i64.wrap (s0.2+t0)))))) else (some (.inr (.inl s0.2)))):Option ((Int×Int)⊕((Int)⊕(Bool))))) ((0:Int),(0:Int))).bind λe0=>(match e0 with | .inl p0=>(QaZ (words_.length:Int) 1 12).bind λt2=>(opt (((t2&&((words_.length:Int)==(weights_.length:Int)))&&(decide (p0>0)))==true) (QbM words_ (λx0=>Qaj x0)) default).bind λt3=>(some (((t2&&((words_.length:Int)==(weights_.length:Int)))&&(decide (p0>0)))&&t3)) | .inr p1=>(some p1))
instance QwD:Spc2 prog 201 Qcp (λwords_ weights_=>[tsl rS words_,tsl rI weights_]) tb:=.mk λ{words_ weights_ r} h=>by
 unfold Qcp at h
 refine Fe func201 ntmps201 λM0 M w0 hpl=>?_
 refine Qa [1,2] ?_
 refine Qa [0,1,2] ?_
 refine Qi λK0 k0=>?_
 refine Qa [0,1,2,3,4,5] ?_
 have⟨e0,h0,h⟩:=bs h
 have J0:∀(p0:Int),(.inl p0)=e0->To M w0 39 [(5,ti p0),(0,tsl rS words_),(1,tsl rI weights_)] [] K0:=by
  intro p0 he;subst he;simp only at h;refine k0 ?_;have⟨_,_,_,_,h⟩:=bs2 h;refine Qa [18] ?_;exact Qo h (·▸Ql hpl)
 have J1:∀(p1:Bool),(.inr p1)=e0->To M w0 39 [(4,tb p1)] [] (Ret prog f201 M0 [] w0 (λ_=>[]) (λ_=>tb r) .ret):=by
  intro p1 he;subst he;simp only at h;obtain rfl:=sj h;exact Ql hpl
 refine Qm <|Qan h0 (λ(s0:Int×Int)=>[(8,tsl rI weights_),(9,ti (weights_.length:Int)),(10,ti s0.1),(5,ti s0.2),(0,tsl rS words_),(1,tsl rI weights_)]) (λ(s0:Int×Int)=>[]) [0,1,2,3,4,5] ?_;clear h;intro s0 o K1 h ho k1;refine Qa [0,1,2,3,4,5,6] ?_;refine Qi λ_ k2=>Qq h (λ_ h=>?_) (λ_ h=>?_)
 ·refine Qt <|k2 <|Qi λ_ k3=>Qm ?_;have⟨_,_,h⟩:=bs h;refine Qa [2,4,5,6,7,8,9] ?_;have⟨_,_,h⟩:=bs h;refine tIfs h [2,3,4,5,6,7,8,9] (λ_ h=>?_) (λ_ h=>?_)
  ·refine Qa [0] ?_;refine Qap ?_;exact Qz J1 (ho _ (sj h).symm) [0]
  refine QL [3,6,7,8,9,10] ?_;refine k3 <|QL [1,2,3,4,5,6] ?_;exact Qz k1 ((sj h).symm) [2,3,0,1,4,5]
 refine QP <|Qz J0 (ho _ (sj h).symm) [4,5,6]
def Qdd (f_:Qb):Option (Bool):=(Qaj f_.Xj).bind λt0=>(opt ((!t0)==false) (QeK f_) default).bind λt1=>(opt ((!t0)==false) (QbE f_ t1) default).bind λt2=>(if ((!t0)||(!t2))=true then (some false) else (if (f_.Xi==0)=true then (QaZ f_.Lo (-1048576) 1048576).bind λt3=>(some t3) else (if (f_.Xi==1)=true then (Qaj f_.Of).bind λt4=>(opt (t4==true) (QcE f_.Lo f_.Hi 0 65536) default).bind λt5=>(some (t4&&t5)) else (if (f_.Xi==2)=true then (QcE f_.Lo f_.Hi (-1048576) 1048576).bind λt6=>(some t6) else (if (f_.Xi==3)=true then (Qcp f_.Words f_.Xf).bind λt7=>(some t7) else (if (f_.Xi==4)=true then (opt ((f_.Of==([]:Str))==false) (Qaj f_.Of) default).bind λt8=>(opt (((f_.Of==([]:Str))||t8)==true) (QcE f_.Lo f_.Hi (-1048576) 1048576) default).bind λt9=>(some (((f_.Of==([]:Str))||t8)&&t9)) else (if (f_.Xi==5)=true then (Qaj f_.Of).bind λt10=>(opt (t10==true) (QcE f_.Lo f_.Hi 0 32) default).bind λt11=>(some (t10&&t11)) else (if (f_.Xi==6)=true then (Qaj f_.Of).bind λt12=>(some t12) else (if (f_.Xi==7)=true then (Qaj f_.Of).bind λt13=>(opt (t13==true) (Qaj f_.Up) default).bind λt14=>(opt ((t13&&t14)==true) (QcE f_.Lo f_.Hi 0 1048576) default).bind λt15=>(some ((t13&&t14)&&t15)) else (if (f_.Xi==8)=true then (Qaj f_.Of).bind λt16=>(opt (t16==true) (Qaj f_.Up) default).bind λt17=>(some (t16&&t17)) else (some false)))))))))))
instance QvD:Spc1 prog 166 Qdd (λf_=>[Qd.ty f_]) tb:=.mk λ{f_ r} h=>by
 unfold Qdd at h
 refine Fe func166 ntmps166 λM0 M w0 hpl=>?_
 refine Qa [0] ?_
 have⟨_,_,_,_,_,_,h⟩:=bs3 h
 refine tIfs h [10,11] (λ_ h=>?_) (λ_ h=>?_)
 ·refine Qa [0] ?_
  exact Qo h (·▸Ql hpl)
 refine Qi λ_ k0=>?_
 refine Qa [1,3] ?_
 refine Qm ?_
 refine Qa [1,2,3] ?_
 refine Qq h (λ_ h=>?_) (λ_ h=>?_)
 ·have⟨_,_,h⟩:=bs h
  refine Qa [3] ?_
  exact Qo h (·▸Ql hpl)
 refine Qa [1,3,4] ?_
 refine Qq h (λ_ h=>?_) (λ_ h=>?_)
 ·have⟨_,_,_,_,h⟩:=bs2 h
  refine Qa [10] ?_
  exact Qo h (·▸Ql hpl)
 refine Qa [1,3,4] ?_
 refine Qq h (λ_ h=>?_) (λ_ h=>?_)
 ·have⟨_,_,h⟩:=bs h
  refine Qa [5] ?_
  exact Qo h (·▸Ql hpl)
 refine Qa [1,3,4] ?_
 refine Qq h (λ_ h=>?_) (λ_ h=>?_)
 ·have⟨_,_,h⟩:=bs h
  refine Qa [5] ?_
  exact Qo h (·▸Ql hpl)
 refine Qa [1,3,4] ?_
 refine Qq h (λ_ h=>?_) (λ_ h=>?_)
 ·have⟨_,_,_,_,h⟩:=bs2 h
  refine Qa [15] ?_
  exact Qo h (·▸Ql hpl)
 refine Qa [1,3,4] ?_
 refine Qq h (λ_ h=>?_) (λ_ h=>?_)
 ·have⟨_,_,_,_,h⟩:=bs2 h
  refine Qa [10] ?_
  exact Qo h (·▸Ql hpl)
 refine Qa [1,3,4] ?_
 refine Qq h (λ_ h=>?_) (λ_ h=>?_)
 ·have⟨_,_,h⟩:=bs h
  refine Qa [3] ?_
  exact Qo h (·▸Ql hpl)
 refine Qa [1,3,4] ?_
 refine Qq h (λ_ h=>?_) (λ_ h=>?_)
 ·have⟨_,_,_,_,_,_,h⟩:=bs3 h
  refine Qa [15] ?_
  exact Qo h (·▸Ql hpl)
 refine Qa [1,4] ?_
 refine Qq h (λ_ h=>?_) (λ_ h=>?_)
 ·have⟨_,_,_,_,h⟩:=bs2 h
  refine Qa [8] ?_
  exact Qo h (·▸Ql hpl)
 refine Qt ?_
 refine k0 ?_
 refine Qa [0] ?_
 exact Qo h (·▸Ql hpl)
def Qdy (k_:Qf):Option (Bool):=(Qaj k_.Xj).bind λt0=>(opt (t0==true) (QcE k_.Lo k_.Hi 0 65536) default).bind λt1=>(opt (((t0&&t1)&&(decide ((k_.Xb.length:Int)<=10)))==true) (Qcu k_.Xb (λx0=>Qdd x0)) default).bind λt2=>(some (((t0&&t1)&&(decide ((k_.Xb.length:Int)<=10)))&&t2))
instance QwE:Spc1 prog 121 Qdy (λk_=>[Qg.ty k_]) tb:=.mk λ{k_ r} h=>by
 unfold Qdy at h
 refine Fe func121 ntmps121 λM0 M w0 hpl=>?_
 refine Qa [0] ?_
 have⟨_,_,_,_,_,_,h⟩:=bs3 h
 refine Qa [21] ?_
 exact Qo h (·▸Ql hpl)
def QdT (x_:Qs) (c0_:(Qs->Option Bool)):Option (Bool):=(c0_ x_).bind λt0=>(some (!t0))
instance Qs6:Spc2 prog 167 QdT (λx_ c0_=>[Qn.ty x_,tptr (QlG.cs c0_)]) tb:=.mk λ{x_ c0_ r} h=>by
 unfold QdT at h
 refine Fe func167 ntmps167 λM0 M w0 hpl=>?_
 refine Qa [0,3] ?_
 have⟨_,_,h⟩:=bs h
 refine Qa [4] ?_
 exact Qo h (·▸Ql hpl)
def Qbz (s_:(List Qs)) (f_:(Qs->Option Bool)):Option (Int):=(Qu (λ(s0:Int)=>((if (decide (s0<(s_.length:Int)))=true then (idx s_ s0).bind λt0=>(f_ t0).bind λt1=>(if t1=true then (some (.inr (.inr s0))) else (some (.inl (i64.wrap (s0+1))))) else (some (.inr (.inl ())))):Option ((Int)⊕((Unit)⊕(Int))))) (0:Int)).bind λe0=>(match e0 with | .inl _=>(some (-1:Int)) | .inr p0=>(some p0))
instance QqU:Spc2 prog 127 Qbz (λs_ f_=>[tsl Qn s_,QlG.ty f_]) ti:=.mk λ{s_ f_ r} h=>by
 unfold Qbz at h
 refine Fe func127 ntmps127 λM0 M w0 hpl=>?_
 refine Qa [1,2] ?_
 refine Qi λK0 k0=>?_
 refine Qa [1,2,3,4] ?_
 have⟨e0,h0,h⟩:=bs h
 have J0:∀(p0:Unit),(.inl p0)=e0->To M w0 19 [] [] K0:=by
  intro p0 he;subst he;simp only at h;refine k0 <|Qa [0] ?_;exact Qo h (·▸Ql hpl)
 have J1:∀(p1:Int),(.inr p1)=e0->To M w0 19 [(4,ti p1)] [] (Ret prog f127 M0 [] w0 (λ_=>[]) (λ_=>ti r) .ret):=by
  intro p1 he;subst he;simp only at h;obtain rfl:=sj h;exact Ql hpl
 refine Qm <|Qan h0 (λ(s0:Int)=>[(7,ti (s_.length:Int)),(8,ti s0),(0,tsl Qn s_),(1,QlG.ty f_)]) (λ(s0:Int)=>[]) [0,1,2,3] ?_;clear h;intro s0 o K1 h ho k1;refine Qa [0,1,2,3,4] ?_;refine Qi λ_ k2=>Qq h (λ_ h=>?_) (λ_ h=>?_)
 ·refine Qt <|k2 <|Qi λ_ k3=>Qm <|Qa [1,3,4,5,6] ?_;have⟨_,_,_,_,h⟩:=bs2 h;refine Qa [5,6,7,8,9,10] ?_;refine Qq h (λ_ h=>?_) (λ_ h=>?_)
  ·refine Qa [1] ?_;refine Qap ?_;exact Qz J1 (ho _ (sj h).symm) [0]
  refine Qt <|k3 <|QL [1,4,5,6] ?_;exact Qz k1 ((sj h).symm) [1,0,2,3]
 refine QP <|Qz J0 (ho _ (sj h).symm) []
def QaE (s_:(List Qs)) (f_:(Qs->Option Bool)):Option (Bool):=(Qbz s_ f_).bind λt0=>(some (decide (t0>=0)))
instance Qpp:Spc2 prog 79 QaE (λs_ f_=>[tsl Qn s_,QlG.ty f_]) tb:=.mk λ{s_ f_ r} h=>by
 unfold QaE at h
 refine Fe func79 ntmps79 λM0 M w0 hpl=>?_
 refine Qa [1,2] ?_
 have⟨_,_,h⟩:=bs h
 refine Qa [4] ?_
 exact Qo h (·▸Ql hpl)
