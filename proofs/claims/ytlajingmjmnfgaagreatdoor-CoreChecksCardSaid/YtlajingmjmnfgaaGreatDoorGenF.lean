/- The walk. No condition. -/
import Derived.Test.YtlajingmjmnfgaaGreatDoorGenE
set_option linter.all false
open Go.Proofs.Tryz Go.IntKind
namespace Go.Proofs.YtlajingmjmnfgaaGreatDoor
noncomputable section
open Go.Sim
set_option maxRecDepth 100000
set_option maxHeartbeats 4000000
def Qgo (f_:Qc):Option (Qc):=((if (f_.Xi==0)=true then (some (Qc.mk f_.Xj ([]:Str) ([]:Str) f_.Xi f_.Lo 0 ([]:(List Str)) ([]:(List Int)))) else ((if (f_.Xi==1)=true then (some (f_.Xi==1)) else ((if (f_.Xi==4)=true then (some (f_.Xi==4)) else (some (f_.Xi==5)))).bind λp0=>(some p0))).bind λp1=>((if p1=true then (some (Qc.mk f_.Xj f_.Of ([]:Str) f_.Xi f_.Lo f_.Hi ([]:(List Str)) ([]:(List Int)))) else ((if (f_.Xi==2)=true then (some (Qc.mk f_.Xj ([]:Str) ([]:Str) f_.Xi f_.Lo f_.Hi ([]:(List Str)) ([]:(List Int)))) else ((if (f_.Xi==3)=true then (some (Qc.mk f_.Xj ([]:Str) ([]:Str) f_.Xi 0 0 f_.Words f_.Xf)) else ((if (f_.Xi==6)=true then (some (Qc.mk f_.Xj f_.Of ([]:Str) f_.Xi 0 0 ([]:(List Str)) ([]:(List Int)))) else ((if (f_.Xi==7)=true then (some (Qc.mk f_.Xj f_.Of f_.Up f_.Xi f_.Lo f_.Hi ([]:(List Str)) ([]:(List Int)))) else ((if (f_.Xi==8)=true then (some (Qc.mk f_.Xj f_.Of f_.Up f_.Xi 0 0 ([]:(List Str)) ([]:(List Int)))) else (some (Qc.mk f_.Xj ([]:Str) ([]:Str) f_.Xi 0 0 ([]:(List Str)) ([]:(List Int)))))).bind λp2=>(some p2))).bind λp3=>(some p3))).bind λp4=>(some p4))).bind λp5=>(some p5))).bind λp6=>(some p6))).bind λp7=>(some p7))).bind λp8=>(some p8)
instance QCc:Spc1 prog 200 Qgo (λf_=>[Qe.ty f_]) Qe.ty:=.mk λ{f_ r} h=>by
 unfold Qgo at h
 refine Fe func200 ntmps200 λM0 M w0 hpl=>?_
 refine QM [v1 1 (λv0=>box (Qe.cs zz0) v0)] [2] [0,1] λm0=>?_
 refine QM [v1 5 (λv0=>box (Qe.cs zz0) v0),v1 5 (λv0=>box (Qe.cs (Qc.mk f_.Xj ([]:Str) ([]:Str) f_.Xi (0:Int) (0:Int) ([]:(List Str)) ([]:(List Int)))) v0)] [6,7] [5,6,7] λm1=>?_
 refine Qf λK0 k0=>?_
 refine Qa [1,2,3,4] ?_
 refine Qj ?_
 refine Qa [1,2,3,4,5] ?_
 have⟨p0,h0,h⟩:=bs h
 have J0:To M w0 73 [(3,tv (m1 5)),(2,tv (m0 1))] [box (Qe.cs zz0) (m0 1),box (Qe.cs p0) (m1 5)] K0:=by
  refine k0 <|QM [v0 (box (Qe.cs p0) (m0 1))] [2] [2] λm2=>?_;refine Q1 (λ_ _ H=>H.Xk [1] rfl) ?_;exact Qo h (·▸Qm hpl)
 replace h:=h0;clear h0;refine Qn h (λ_ h=>?_) (λ_ h=>?_)
 ·refine Qau [v0 (box (Qe.cs (Qc.mk f_.Xj ([]:Str) ([]:Str) f_.Xi f_.Lo (0:Int) ([]:(List Str)) ([]:(List Int)))) (m1 5))] [4] [5,7] λm3=>?_;obtain rfl:=sj h;exact QR J0 [0,1]
 refine Qf λK1 k1=>Qa [1,3,4,5,6] ?_;have⟨p1,h1,h⟩:=bs h;have J1:To M w0 73 [(16,tb p1),(10,ti f_.Xi),(3,tv (m1 5)),(1,tptr (Qe.cs f_)),(2,tv (m0 1))] [box (Qe.cs zz0) (m0 1),box (Qe.cs (Qc.mk f_.Xj ([]:Str) ([]:Str) f_.Xi (0:Int) (0:Int) ([]:(List Str)) ([]:(List Int)))) (m1 5)] K1:=by
  refine k1 ?_;have⟨p2,h2,h⟩:=bs h;have J2:To M w0 73 [(3,tv (m1 5)),(2,tv (m0 1))] [box (Qe.cs zz0) (m0 1),box (Qe.cs p2) (m1 5)] K0:=by
   obtain rfl:=sj h;exact QR J0 [0,1]
  replace h:=h2;clear h2;refine Qn h (λ_ h=>?_) (λ_ h=>?_)
  ·refine Qau [v0 (box (Qe.cs (Qc.mk f_.Xj f_.Of ([]:Str) f_.Xi (0:Int) (0:Int) ([]:(List Str)) ([]:(List Int)))) (m1 5)),v0 (box (Qe.cs (Qc.mk f_.Xj f_.Of ([]:Str) f_.Xi f_.Lo (0:Int) ([]:(List Str)) ([]:(List Int)))) (m1 5)),v0 (box (Qe.cs (Qc.mk f_.Xj f_.Of ([]:Str) f_.Xi f_.Lo f_.Hi ([]:(List Str)) ([]:(List Int)))) (m1 5))] [8,10,12] [11,13] λm4=>?_;obtain rfl:=sj h;exact QR J2 [0,1]
  refine Qa [1,3,4,5,6] ?_;have⟨p3,h3,h⟩:=bs h;have J3:To M w0 73 [(3,tv (m1 5)),(2,tv (m0 1))] [box (Qe.cs zz0) (m0 1),box (Qe.cs p3) (m1 5)] K0:=by
   obtain rfl:=sj h;exact QR J2 [0,1]
  replace h:=h3;clear h3;refine Qn h (λ_ h=>?_) (λ_ h=>?_)
  ·refine Qau [v0 (box (Qe.cs (Qc.mk f_.Xj ([]:Str) ([]:Str) f_.Xi f_.Lo (0:Int) ([]:(List Str)) ([]:(List Int)))) (m1 5)),v0 (box (Qe.cs (Qc.mk f_.Xj ([]:Str) ([]:Str) f_.Xi f_.Lo f_.Hi ([]:(List Str)) ([]:(List Int)))) (m1 5))] [6,8] [8,10] λm5=>?_;obtain rfl:=sj h;exact QR J3 [0,1]
  refine Qa [1,3,4,5,6] ?_;have⟨p4,h4,h⟩:=bs h;have J4:To M w0 73 [(3,tv (m1 5)),(2,tv (m0 1))] [box (Qe.cs zz0) (m0 1),box (Qe.cs p4) (m1 5)] K0:=by
   obtain rfl:=sj h;exact QR J3 [0,1]
  replace h:=h4;clear h4;refine Qn h (λ_ h=>?_) (λ_ h=>?_)
  ·refine Qau [v0 (box (Qe.cs (Qc.mk f_.Xj ([]:Str) ([]:Str) f_.Xi (0:Int) (0:Int) f_.Words ([]:(List Int)))) (m1 5)),v0 (box (Qe.cs (Qc.mk f_.Xj ([]:Str) ([]:Str) f_.Xi (0:Int) (0:Int) f_.Words f_.Xf)) (m1 5))] [6,8] [8,10] λm6=>?_;obtain rfl:=sj h;exact QR J4 [0,1]
  refine Qa [1,3,4,5,6] ?_;have⟨p5,h5,h⟩:=bs h;have J5:To M w0 73 [(3,tv (m1 5)),(2,tv (m0 1))] [box (Qe.cs zz0) (m0 1),box (Qe.cs p5) (m1 5)] K0:=by
   obtain rfl:=sj h;exact QR J4 [0,1]
  replace h:=h5;clear h5;refine Qn h (λ_ h=>?_) (λ_ h=>?_)
  ·refine Qau [v0 (box (Qe.cs (Qc.mk f_.Xj f_.Of ([]:Str) f_.Xi (0:Int) (0:Int) ([]:(List Str)) ([]:(List Int)))) (m1 5))] [4] [5,7] λm7=>?_;obtain rfl:=sj h;exact QR J5 [0,1]
  refine Qa [1,3,4,5,6] ?_;have⟨p6,h6,h⟩:=bs h;have J6:To M w0 73 [(3,tv (m1 5)),(2,tv (m0 1))] [box (Qe.cs zz0) (m0 1),box (Qe.cs p6) (m1 5)] K0:=by
   obtain rfl:=sj h;exact QR J5 [0,1]
  replace h:=h6;clear h6;refine Qn h (λ_ h=>?_) (λ_ h=>?_)
  ·refine Qau [v0 (box (Qe.cs (Qc.mk f_.Xj f_.Of ([]:Str) f_.Xi (0:Int) (0:Int) ([]:(List Str)) ([]:(List Int)))) (m1 5)),v0 (box (Qe.cs (Qc.mk f_.Xj f_.Of f_.Up f_.Xi (0:Int) (0:Int) ([]:(List Str)) ([]:(List Int)))) (m1 5)),v0 (box (Qe.cs (Qc.mk f_.Xj f_.Of f_.Up f_.Xi f_.Lo (0:Int) ([]:(List Str)) ([]:(List Int)))) (m1 5)),v0 (box (Qe.cs (Qc.mk f_.Xj f_.Of f_.Up f_.Xi f_.Lo f_.Hi ([]:(List Str)) ([]:(List Int)))) (m1 5))] [10,12,14,16] [14,16] λm8=>?_;obtain rfl:=sj h;exact QR J6 [0,1]
  refine Qa [1,4,5,6] ?_;have⟨p7,h7,h⟩:=bs h;have J7:To M w0 73 [(3,tv (m1 5)),(2,tv (m0 1))] [box (Qe.cs zz0) (m0 1),box (Qe.cs p7) (m1 5)] K0:=by
   obtain rfl:=sj h;exact QR J6 [0,1]
  replace h:=h7;clear h7;refine Qn h (λ_ h=>?_) (λ_ h=>?_)
  ·refine Qau [v0 (box (Qe.cs (Qc.mk f_.Xj f_.Of ([]:Str) f_.Xi (0:Int) (0:Int) ([]:(List Str)) ([]:(List Int)))) (m1 5)),v0 (box (Qe.cs (Qc.mk f_.Xj f_.Of f_.Up f_.Xi (0:Int) (0:Int) ([]:(List Str)) ([]:(List Int)))) (m1 5))] [6,8] [7,9] λm9=>?_;obtain rfl:=sj h;exact QR J7 [0,1]
  refine Qq ?_;obtain rfl:=sj h;exact QR J7 [1,3]
 replace h:=h1;clear h1;refine Qn h (λ_ h=>?_) (λ_ h=>?_)
 ·refine Qq ?_;obtain rfl:=sj h;exact QR J1 [0,1,2,3,4]
 refine Qa [1,2,3,4,5] ?_;have⟨p8,h8,h⟩:=bs h;have J8:To M w0 73 [(16,tb p8),(10,ti f_.Xi),(3,tv (m1 5)),(1,tptr (Qe.cs f_)),(2,tv (m0 1))] [box (Qe.cs zz0) (m0 1),box (Qe.cs (Qc.mk f_.Xj ([]:Str) ([]:Str) f_.Xi (0:Int) (0:Int) ([]:(List Str)) ([]:(List Int)))) (m1 5)] K1:=by
  obtain rfl:=sj h;exact QR J1 [0,1,2,3,4]
 replace h:=h8;clear h8;refine Qn h (λ_ h=>?_) (λ_ h=>?_)
 ·refine Qq ?_;obtain rfl:=sj h;exact QR J8 [0,1,2,3,4]
 refine QJ [1,2,3,4,5] ?_;obtain rfl:=sj h;exact QR J8 [0,1,2,3,4]
def QcR (s1_:(List Str)) (s2_:(List Str)):Option (Bool):=(if ((s1_.length:Int) !=(s2_.length:Int))=true then (some false) else (Ql (λ(s0:Int)=>((if (decide (s0<(s1_.length:Int)))=true then (idx s1_ s0).bind λt0=>(idx s2_ s0).bind λt1=>(if (t0 !=t1)=true then (some (.inr (.inr false))) else (some (.inl (i64.wrap (s0+1))))) else (some (.inr (.inl ())))):Option ((Int)⊕((Unit)⊕(Bool))))) (0:Int)).bind λe0=>(match e0 with | .inl _=>(some true) | .inr p0=>(some p0)))
instance Qsk:Spc2 prog 70 QcR (λs1_ s2_=>[tsl rS s1_,tsl rS s2_]) tb:=.mk λ{s1_ s2_ r} h=>by
 unfold QcR at h
 refine Fe func70 ntmps70 λM0 M w0 hpl=>?_
 refine Qa [1,2] ?_
 refine tIfs h [4,5,6] (λ_ h=>?_) (λ_ h=>?_)
 ·refine Qa [0] ?_
  exact Qo h (·▸Qm hpl)
 refine Qf λK0 k0=>?_
 refine Qa [1,2,4,5] ?_
 have⟨e0,h0,h⟩:=bs h
 have J0:∀(p0:Unit),(.inl p0)=e0->To M w0 26 [] [] K0:=by
  intro p0 he;subst he;simp only at h;refine k0 <|Qa [0] ?_;exact Qo h (·▸Qm hpl)
 have J1:∀(p1:Bool),(.inr p1)=e0->To M w0 26 [(4,tb p1)] [] (Ret prog f70 M0 [] w0 (λ_=>[]) (λ_=>tb r) .ret):=by
  intro p1 he;subst he;simp only at h;obtain rfl:=sj h;exact Qm hpl
 refine Qj <|Qai h0 (λ(s0:Int)=>[(12,ti (s1_.length:Int)),(13,ti s0),(0,tsl rS s1_),(1,tsl rS s2_)]) (λ(s0:Int)=>[]) [0,1,2,3] ?_;clear h;intro s0 o K1 h ho k1;refine Qa [0,1,2,3,4] ?_;refine Qf λ_ k2=>Qn h (λ_ h=>?_) (λ_ h=>?_)
 ·refine Qq <|k2 <|Qf λ_ k3=>Qj <|Qa [1,3,4,5,6] ?_;have⟨_,_,_,_,h⟩:=bs2 h;refine Qa [8,10,11,12,13] ?_;refine Qn h (λ_ h=>?_) (λ_ h=>?_)
  ·refine Qa [0] ?_;refine Qal ?_;exact Qu J1 (ho _ (sj h).symm) [0]
  refine Qq <|k3 <|QJ [1,3,4,5] ?_;exact Qu k1 ((sj h).symm) [1,0,2,3]
 refine QN <|Qu J0 (ho _ (sj h).symm) []
def QdQ (s1_:(List Int)) (s2_:(List Int)):Option (Bool):=(if ((s1_.length:Int) !=(s2_.length:Int))=true then (some false) else (Ql (λ(s0:Int)=>((if (decide (s0<(s1_.length:Int)))=true then (idx s1_ s0).bind λt0=>(idx s2_ s0).bind λt1=>(if (t0 !=t1)=true then (some (.inr (.inr false))) else (some (.inl (i64.wrap (s0+1))))) else (some (.inr (.inl ())))):Option ((Int)⊕((Unit)⊕(Bool))))) (0:Int)).bind λe0=>(match e0 with | .inl _=>(some true) | .inr p0=>(some p0)))
instance QuY:Spc2 prog 114 QdQ (λs1_ s2_=>[tsl rI s1_,tsl rI s2_]) tb:=.mk λ{s1_ s2_ r} h=>by
 unfold QdQ at h
 refine Fe func114 ntmps114 λM0 M w0 hpl=>?_
 refine Qa [1,2] ?_
 refine tIfs h [4,5,6] (λ_ h=>?_) (λ_ h=>?_)
 ·refine Qa [0] ?_
  exact Qo h (·▸Qm hpl)
 refine Qf λK0 k0=>?_
 refine Qa [1,2,4,5] ?_
 have⟨e0,h0,h⟩:=bs h
 have J0:∀(p0:Unit),(.inl p0)=e0->To M w0 26 [] [] K0:=by
  intro p0 he;subst he;simp only at h;refine k0 <|Qa [0] ?_;exact Qo h (·▸Qm hpl)
 have J1:∀(p1:Bool),(.inr p1)=e0->To M w0 26 [(4,tb p1)] [] (Ret prog f114 M0 [] w0 (λ_=>[]) (λ_=>tb r) .ret):=by
  intro p1 he;subst he;simp only at h;obtain rfl:=sj h;exact Qm hpl
 refine Qj <|Qai h0 (λ(s0:Int)=>[(12,ti (s1_.length:Int)),(13,ti s0),(0,tsl rI s1_),(1,tsl rI s2_)]) (λ(s0:Int)=>[]) [0,1,2,3] ?_;clear h;intro s0 o K1 h ho k1;refine Qa [0,1,2,3,4] ?_;refine Qf λ_ k2=>Qn h (λ_ h=>?_) (λ_ h=>?_)
 ·refine Qq <|k2 <|Qf λ_ k3=>Qj <|Qa [1,3,4,5,6] ?_;have⟨_,_,_,_,h⟩:=bs2 h;refine Qa [8,10,11,12,13] ?_;refine Qn h (λ_ h=>?_) (λ_ h=>?_)
  ·refine Qa [0] ?_;refine Qal ?_;exact Qu J1 (ho _ (sj h).symm) [0]
  refine Qq <|k3 <|QJ [1,3,4,5] ?_;exact Qu k1 ((sj h).symm) [1,0,2,3]
 refine QN <|Qu J0 (ho _ (sj h).symm) []
def QdR (a_:Qc) (b_:Qc):Option (Bool):=(opt (((((((a_.Xj==b_.Xj)&&(a_.Of==b_.Of))&&(a_.Up==b_.Up))&&(a_.Xi==b_.Xi))&&(a_.Lo==b_.Lo))&&(a_.Hi==b_.Hi))==true) (QcR a_.Words b_.Words) default).bind λt0=>(opt ((((((((a_.Xj==b_.Xj)&&(a_.Of==b_.Of))&&(a_.Up==b_.Up))&&(a_.Xi==b_.Xi))&&(a_.Lo==b_.Lo))&&(a_.Hi==b_.Hi))&&t0)==true) (QdQ a_.Xf b_.Xf) default).bind λt1=>(some ((((((((a_.Xj==b_.Xj)&&(a_.Of==b_.Of))&&(a_.Up==b_.Up))&&(a_.Xi==b_.Xi))&&(a_.Lo==b_.Lo))&&(a_.Hi==b_.Hi))&&t0)&&t1))
instance QuZ:Spc2 prog 67 QdR (λa_ b_=>[Qe.ty a_,Qe.ty b_]) tb:=.mk λ{a_ b_ r} h=>by
 unfold QdR at h
 refine Fe func67 ntmps67 λM0 M w0 hpl=>?_
 refine Qa [0,1] ?_
 have⟨_,_,_,_,h⟩:=bs2 h
 refine Qa [54] ?_
 exact Qo h (·▸Qm hpl)
def Qfw (x_:Str) (c0_:(Str->Option Bool)):Option (Bool):=(c0_ x_).bind λt0=>(some (!t0))
instance Qsl:Spc2 prog 203 Qfw (λx_ c0_=>[tv (.string (sB x_)),tptr (QkK.cs c0_)]) tb:=.mk λ{x_ c0_ r} h=>by
 unfold Qfw at h
 refine Fe func203 ntmps203 λM0 M w0 hpl=>?_
 refine Qa [1,2] ?_
 have⟨_,_,h⟩:=bs h
 refine Qa [4] ?_
 exact Qo h (·▸Qm hpl)
def Qb0 (s_:(List Str)) (f_:(Str->Option Bool)):Option (Int):=(Ql (λ(s0:Int)=>((if (decide (s0<(s_.length:Int)))=true then (idx s_ s0).bind λt0=>(f_ t0).bind λt1=>(if t1=true then (some (.inr (.inr s0))) else (some (.inl (i64.wrap (s0+1))))) else (some (.inr (.inl ())))):Option ((Int)⊕((Unit)⊕(Int))))) (0:Int)).bind λe0=>(match e0 with | .inl _=>(some (-1:Int)) | .inr p0=>(some p0))
instance Qp6:Spc2 prog 222 Qb0 (λs_ f_=>[tsl rS s_,QkK.ty f_]) ti:=.mk λ{s_ f_ r} h=>by
 unfold Qb0 at h
 refine Fe func222 ntmps222 λM0 M w0 hpl=>?_
 refine Qa [1,2] ?_
 refine Qf λK0 k0=>?_
 refine Qa [1,2,3,4] ?_
 have⟨e0,h0,h⟩:=bs h
 have J0:∀(p0:Unit),(.inl p0)=e0->To M w0 19 [] [] K0:=by
  intro p0 he;subst he;simp only at h;refine k0 <|Qa [0] ?_;exact Qo h (·▸Qm hpl)
 have J1:∀(p1:Int),(.inr p1)=e0->To M w0 19 [(4,ti p1)] [] (Ret prog f222 M0 [] w0 (λ_=>[]) (λ_=>ti r) .ret):=by
  intro p1 he;subst he;simp only at h;obtain rfl:=sj h;exact Qm hpl
 refine Qj <|Qai h0 (λ(s0:Int)=>[(7,ti (s_.length:Int)),(8,ti s0),(0,tsl rS s_),(1,QkK.ty f_)]) (λ(s0:Int)=>[]) [0,1,2,3] ?_;clear h;intro s0 o K1 h ho k1;refine Qa [0,1,2,3,4] ?_;refine Qf λ_ k2=>Qn h (λ_ h=>?_) (λ_ h=>?_)
 ·refine Qq <|k2 <|Qf λ_ k3=>Qj <|Qa [1,3,4,5,6] ?_;have⟨_,_,_,_,h⟩:=bs2 h;refine Qa [5,6,7,8,9,10] ?_;refine Qn h (λ_ h=>?_) (λ_ h=>?_)
  ·refine Qa [1] ?_;refine Qal ?_;exact Qu J1 (ho _ (sj h).symm) [0]
  refine Qq <|k3 <|QJ [1,4,5,6] ?_;exact Qu k1 ((sj h).symm) [1,0,2,3]
 refine QN <|Qu J0 (ho _ (sj h).symm) []
def Qbt (s_:(List Str)) (f_:(Str->Option Bool)):Option (Bool):=(Qb0 s_ f_).bind λt0=>(some (decide (t0>=0)))
instance QoA:Spc2 prog 202 Qbt (λs_ f_=>[tsl rS s_,QkK.ty f_]) tb:=.mk λ{s_ f_ r} h=>by
 unfold Qbt at h
 refine Fe func202 ntmps202 λM0 M w0 hpl=>?_
 refine Qa [1,2] ?_
 have⟨_,_,h⟩:=bs h
 refine Qa [4] ?_
 exact Qo h (·▸Qm hpl)
def QcG (l_:(List Str)) (right_:(Str->Option Bool)):Option (Bool):=(Qbt l_ (λx0=>Qfw x0 right_)).bind λt0=>(some (!t0))
instance Quc:Spc2 prog 168 QcG (λl_ right_=>[tsl rS l_,QkK.ty right_]) tb:=.mk λ{l_ right_ r} h=>by
 unfold QcG at h
 refine Fe func168 ntmps168 λM0 M w0 hpl=>?_
 refine Qa [0,2] ?_
 have⟨_,_,h⟩:=bs h
 refine Qa [4] ?_
 exact Qo h (·▸Qm hpl)
def Qc3 (words_:(List Str)) (weights_:(List Int)):Option (Bool):=(Ql (λ(s0:Int×Int)=>((if (decide (s0.1<(weights_.length:Int)))=true then (idx weights_ s0.1).bind λt0=>(Qba t0 0 1048576).bind λt1=>(if (!t1)=true then (some (.inr (.inr false))) else (some (.inl ((i64.wrap (s0.1+1)),(i64.wrap (s0.2+t0)))))) else (some (.inr (.inl s0.2)))):Option ((Int×Int)⊕((Int)⊕(Bool))))) ((0:Int),(0:Int))).bind λe0=>(match e0 with | .inl p0=>(Qba (words_.length:Int) 1 12).bind λt2=>(opt (((t2&&((words_.length:Int)==(weights_.length:Int)))&&(decide (p0>0)))==true) (QcG words_ (λx0=>Qap x0)) default).bind λt3=>(some (((t2&&((words_.length:Int)==(weights_.length:Int)))&&(decide (p0>0)))&&t3)) | .inr p1=>(some p1))
instance Qyw:Spc2 prog 201 Qc3 (λwords_ weights_=>[tsl rS words_,tsl rI weights_]) tb:=.mk λ{words_ weights_ r} h=>by
 unfold Qc3 at h
 refine Fe func201 ntmps201 λM0 M w0 hpl=>?_
 refine Qa [1,2] ?_
 refine Qa [0,1,2] ?_
 refine Qf λK0 k0=>?_
 refine Qa [0,1,2,3,4,5] ?_
 have⟨e0,h0,h⟩:=bs h
 have J0:∀(p0:Int),(.inl p0)=e0->To M w0 39 [(5,ti p0),(0,tsl rS words_),(1,tsl rI weights_)] [] K0:=by
  intro p0 he;subst he;simp only at h;refine k0 ?_;have⟨_,_,_,_,h⟩:=bs2 h;refine Qa [18] ?_;exact Qo h (·▸Qm hpl)
 have J1:∀(p1:Bool),(.inr p1)=e0->To M w0 39 [(4,tb p1)] [] (Ret prog f201 M0 [] w0 (λ_=>[]) (λ_=>tb r) .ret):=by
  intro p1 he;subst he;simp only at h;obtain rfl:=sj h;exact Qm hpl
 refine Qj <|Qai h0 (λ(s0:Int×Int)=>[(8,tsl rI weights_),(9,ti (weights_.length:Int)),(10,ti s0.1),(5,ti s0.2),(0,tsl rS words_),(1,tsl rI weights_)]) (λ(s0:Int×Int)=>[]) [0,1,2,3,4,5] ?_;clear h;intro s0 o K1 h ho k1;refine Qa [0,1,2,3,4,5,6] ?_;refine Qf λ_ k2=>Qn h (λ_ h=>?_) (λ_ h=>?_)
 ·refine Qq <|k2 <|Qf λ_ k3=>Qj ?_;have⟨_,_,h⟩:=bs h;refine Qa [2,4,5,6,7,8,9] ?_;have⟨_,_,h⟩:=bs h;refine tIfs h [2,3,4,5,6,7,8,9] (λ_ h=>?_) (λ_ h=>?_)
  ·refine Qa [0] ?_;refine Qal ?_;exact Qu J1 (ho _ (sj h).symm) [0]
  refine QJ [3,6,7,8,9,10] ?_;refine k3 <|QJ [1,2,3,4,5,6] ?_;exact Qu k1 ((sj h).symm) [2,3,0,1,4,5]
 refine QN <|Qu J0 (ho _ (sj h).symm) [4,5,6]
def QeE (f_:Qc):Option (Bool):=(Qap f_.Xj).bind λt0=>(opt ((!t0)==false) (Qgo f_) default).bind λt1=>(opt ((!t0)==false) (QdR f_ t1) default).bind λt2=>(if ((!t0)||(!t2))=true then (some false) else (if (f_.Xi==0)=true then (Qba f_.Lo (-1048576) 1048576).bind λt3=>(some t3) else (if (f_.Xi==1)=true then (Qap f_.Of).bind λt4=>(opt (t4==true) (Qdr f_.Lo f_.Hi 0 65536) default).bind λt5=>(some (t4&&t5)) else (if (f_.Xi==2)=true then (Qdr f_.Lo f_.Hi (-1048576) 1048576).bind λt6=>(some t6) else (if (f_.Xi==3)=true then (Qc3 f_.Words f_.Xf).bind λt7=>(some t7) else (if (f_.Xi==4)=true then (opt ((f_.Of==([]:Str))==false) (Qap f_.Of) default).bind λt8=>(opt (((f_.Of==([]:Str))||t8)==true) (Qdr f_.Lo f_.Hi (-1048576) 1048576) default).bind λt9=>(some (((f_.Of==([]:Str))||t8)&&t9)) else (if (f_.Xi==5)=true then (Qap f_.Of).bind λt10=>(opt (t10==true) (Qdr f_.Lo f_.Hi 0 32) default).bind λt11=>(some (t10&&t11)) else (if (f_.Xi==6)=true then (Qap f_.Of).bind λt12=>(some t12) else (if (f_.Xi==7)=true then (Qap f_.Of).bind λt13=>(opt (t13==true) (Qap f_.Up) default).bind λt14=>(opt ((t13&&t14)==true) (Qdr f_.Lo f_.Hi 0 1048576) default).bind λt15=>(some ((t13&&t14)&&t15)) else (if (f_.Xi==8)=true then (Qap f_.Of).bind λt16=>(opt (t16==true) (Qap f_.Up) default).bind λt17=>(some (t16&&t17)) else (some false)))))))))))
instance Qxt:Spc1 prog 166 QeE (λf_=>[Qe.ty f_]) tb:=.mk λ{f_ r} h=>by
 unfold QeE at h
 refine Fe func166 ntmps166 λM0 M w0 hpl=>?_
 refine Qa [0] ?_
 have⟨_,_,_,_,_,_,h⟩:=bs3 h
 refine tIfs h [10,11] (λ_ h=>?_) (λ_ h=>?_)
 ·refine Qa [0] ?_
  exact Qo h (·▸Qm hpl)
 refine Qf λ_ k0=>?_
 refine Qa [1,3] ?_
 refine Qj ?_
 refine Qa [1,2,3] ?_
 refine Qn h (λ_ h=>?_) (λ_ h=>?_)
 ·have⟨_,_,h⟩:=bs h
  refine Qa [3] ?_
  exact Qo h (·▸Qm hpl)
 refine Qa [1,3,4] ?_
 refine Qn h (λ_ h=>?_) (λ_ h=>?_)
 ·have⟨_,_,_,_,h⟩:=bs2 h
  refine Qa [10] ?_
  exact Qo h (·▸Qm hpl)
 refine Qa [1,3,4] ?_
 refine Qn h (λ_ h=>?_) (λ_ h=>?_)
 ·have⟨_,_,h⟩:=bs h
  refine Qa [5] ?_
  exact Qo h (·▸Qm hpl)
 refine Qa [1,3,4] ?_
 refine Qn h (λ_ h=>?_) (λ_ h=>?_)
 ·have⟨_,_,h⟩:=bs h
  refine Qa [5] ?_
  exact Qo h (·▸Qm hpl)
 refine Qa [1,3,4] ?_
 refine Qn h (λ_ h=>?_) (λ_ h=>?_)
 ·have⟨_,_,_,_,h⟩:=bs2 h
  refine Qa [15] ?_
  exact Qo h (·▸Qm hpl)
 refine Qa [1,3,4] ?_
 refine Qn h (λ_ h=>?_) (λ_ h=>?_)
 ·have⟨_,_,_,_,h⟩:=bs2 h
  refine Qa [10] ?_
  exact Qo h (·▸Qm hpl)
 refine Qa [1,3,4] ?_
 refine Qn h (λ_ h=>?_) (λ_ h=>?_)
 ·have⟨_,_,h⟩:=bs h
  refine Qa [3] ?_
  exact Qo h (·▸Qm hpl)
 refine Qa [1,3,4] ?_
 refine Qn h (λ_ h=>?_) (λ_ h=>?_)
 ·have⟨_,_,_,_,_,_,h⟩:=bs3 h
  refine Qa [15] ?_
  exact Qo h (·▸Qm hpl)
 refine Qa [1,4] ?_
 refine Qn h (λ_ h=>?_) (λ_ h=>?_)
 ·have⟨_,_,_,_,h⟩:=bs2 h
  refine Qa [8] ?_
  exact Qo h (·▸Qm hpl)
 refine Qq ?_
 refine k0 ?_
 refine Qa [0] ?_
 exact Qo h (·▸Qm hpl)
def Qe9 (k_:Qg):Option (Bool):=(Qap k_.Xj).bind λt0=>(opt (t0==true) (Qdr k_.Lo k_.Hi 0 65536) default).bind λt1=>(opt (((t0&&t1)&&(decide ((k_.Xb.length:Int)<=10)))==true) (QdP k_.Xb (λx0=>QeE x0)) default).bind λt2=>(some (((t0&&t1)&&(decide ((k_.Xb.length:Int)<=10)))&&t2))
instance Qyx:Spc1 prog 121 Qe9 (λk_=>[Qk.ty k_]) tb:=.mk λ{k_ r} h=>by
 unfold Qe9 at h
 refine Fe func121 ntmps121 λM0 M w0 hpl=>?_
 refine Qa [0] ?_
 have⟨_,_,_,_,_,_,h⟩:=bs3 h
 refine Qa [21] ?_
 exact Qo h (·▸Qm hpl)
def Qgp (x_:QA) (c0_:(QA->Option Bool)):Option (Bool):=(c0_ x_).bind λt0=>(some (!t0))
instance Qud:Spc2 prog 167 Qgp (λx_ c0_=>[QH.ty x_,tptr (QkH.cs c0_)]) tb:=.mk λ{x_ c0_ r} h=>by
 unfold Qgp at h
 refine Fe func167 ntmps167 λM0 M w0 hpl=>?_
 refine Qa [0,3] ?_
 have⟨_,_,h⟩:=bs h
 refine Qa [4] ?_
 exact Qo h (·▸Qm hpl)
def Qct (s_:(List QA)) (f_:(QA->Option Bool)):Option (Int):=(Ql (λ(s0:Int)=>((if (decide (s0<(s_.length:Int)))=true then (idx s_ s0).bind λt0=>(f_ t0).bind λt1=>(if t1=true then (some (.inr (.inr s0))) else (some (.inl (i64.wrap (s0+1))))) else (some (.inr (.inl ())))):Option ((Int)⊕((Unit)⊕(Int))))) (0:Int)).bind λe0=>(match e0 with | .inl _=>(some (-1:Int)) | .inr p0=>(some p0))
instance Qrc:Spc2 prog 127 Qct (λs_ f_=>[tsl QH s_,QkH.ty f_]) ti:=.mk λ{s_ f_ r} h=>by
 unfold Qct at h
 refine Fe func127 ntmps127 λM0 M w0 hpl=>?_
 refine Qa [1,2] ?_
 refine Qf λK0 k0=>?_
 refine Qa [1,2,3,4] ?_
 have⟨e0,h0,h⟩:=bs h
 have J0:∀(p0:Unit),(.inl p0)=e0->To M w0 19 [] [] K0:=by
  intro p0 he;subst he;simp only at h;refine k0 <|Qa [0] ?_;exact Qo h (·▸Qm hpl)
 have J1:∀(p1:Int),(.inr p1)=e0->To M w0 19 [(4,ti p1)] [] (Ret prog f127 M0 [] w0 (λ_=>[]) (λ_=>ti r) .ret):=by
  intro p1 he;subst he;simp only at h;obtain rfl:=sj h;exact Qm hpl
 refine Qj <|Qai h0 (λ(s0:Int)=>[(7,ti (s_.length:Int)),(8,ti s0),(0,tsl QH s_),(1,QkH.ty f_)]) (λ(s0:Int)=>[]) [0,1,2,3] ?_;clear h;intro s0 o K1 h ho k1;refine Qa [0,1,2,3,4] ?_;refine Qf λ_ k2=>Qn h (λ_ h=>?_) (λ_ h=>?_)
 ·refine Qq <|k2 <|Qf λ_ k3=>Qj <|Qa [1,3,4,5,6] ?_;have⟨_,_,_,_,h⟩:=bs2 h;refine Qa [5,6,7,8,9,10] ?_;refine Qn h (λ_ h=>?_) (λ_ h=>?_)
  ·refine Qa [1] ?_;refine Qal ?_;exact Qu J1 (ho _ (sj h).symm) [0]
  refine Qq <|k3 <|QJ [1,4,5,6] ?_;exact Qu k1 ((sj h).symm) [1,0,2,3]
 refine QN <|Qu J0 (ho _ (sj h).symm) []
def QaV (s_:(List QA)) (f_:(QA->Option Bool)):Option (Bool):=(Qct s_ f_).bind λt0=>(some (decide (t0>=0)))
instance Qpw:Spc2 prog 79 QaV (λs_ f_=>[tsl QH s_,QkH.ty f_]) tb:=.mk λ{s_ f_ r} h=>by
 unfold QaV at h
 refine Fe func79 ntmps79 λM0 M w0 hpl=>?_
 refine Qa [1,2] ?_
 have⟨_,_,h⟩:=bs h
 refine Qa [4] ?_
 exact Qo h (·▸Qm hpl)
def Qec (l_:(List QA)) (right_:(QA->Option Bool)):Option (Bool):=(QaV l_ (λx0=>Qgp x0 right_)).bind λt0=>(some (!t0))
instance Qwi:Spc2 prog 122 Qec (λl_ right_=>[tsl QH l_,QkH.ty right_]) tb:=.mk λ{l_ right_ r} h=>by
 unfold Qec at h
 refine Fe func122 ntmps122 λM0 M w0 hpl=>?_
 refine Qa [0,2] ?_
 have⟨_,_,h⟩:=bs h
 refine Qa [4] ?_
 exact Qo h (·▸Qm hpl)
def Qed (m_:QO) (c0_:Int):Option (Bool):=(Qba m_.a0 0 (i64.wrap (c0_ - 1))).bind λt0=>(opt (t0==true) (Qba m_.a1 0 (i64.wrap (c0_ - 1))) default).bind λt1=>(some (t0&&t1))
instance Qwj:Spc2 prog 170 Qed (λm_ c0_=>[Qaq.ty m_,tptr (rI.cs c0_)]) tb:=.mk λ{m_ c0_ r} h=>by
 unfold Qed at h
 refine Fe func170 ntmps170 λM0 M w0 hpl=>?_
 refine Qa [0,3] ?_
 have⟨_,_,_,_,h⟩:=bs2 h
 refine Qa [12] ?_
 exact Qo h (·▸Qm hpl)
def Qfx (x_:QO) (c0_:(QO->Option Bool)):Option (Bool):=(c0_ x_).bind λt0=>(some (!t0))
instance Qsm:Spc2 prog 205 Qfx (λx_ c0_=>[Qaq.ty x_,tptr (QkL.cs c0_)]) tb:=.mk λ{x_ c0_ r} h=>by
 unfold Qfx at h
 refine Fe func205 ntmps205 λM0 M w0 hpl=>?_
 refine Qa [0,3] ?_
 have⟨_,_,h⟩:=bs h
 refine Qa [4] ?_
 exact Qo h (·▸Qm hpl)
def Qb1 (s_:(List QO)) (f_:(QO->Option Bool)):Option (Int):=(Ql (λ(s0:Int)=>((if (decide (s0<(s_.length:Int)))=true then (idx s_ s0).bind λt0=>(f_ t0).bind λt1=>(if t1=true then (some (.inr (.inr s0))) else (some (.inl (i64.wrap (s0+1))))) else (some (.inr (.inl ())))):Option ((Int)⊕((Unit)⊕(Int))))) (0:Int)).bind λe0=>(match e0 with | .inl _=>(some (-1:Int)) | .inr p0=>(some p0))
instance Qp7:Spc2 prog 223 Qb1 (λs_ f_=>[tsl Qaq s_,QkL.ty f_]) ti:=.mk λ{s_ f_ r} h=>by
 unfold Qb1 at h
 refine Fe func223 ntmps223 λM0 M w0 hpl=>?_
 refine Qa [1,2] ?_
 refine Qf λK0 k0=>?_
 refine Qa [1,2,3,4] ?_
 have⟨e0,h0,h⟩:=bs h
 have J0:∀(p0:Unit),(.inl p0)=e0->To M w0 19 [] [] K0:=by
  intro p0 he;subst he;simp only at h;refine k0 <|Qa [0] ?_;exact Qo h (·▸Qm hpl)
 have J1:∀(p1:Int),(.inr p1)=e0->To M w0 19 [(4,ti p1)] [] (Ret prog f223 M0 [] w0 (λ_=>[]) (λ_=>ti r) .ret):=by
  intro p1 he;subst he;simp only at h;obtain rfl:=sj h;exact Qm hpl
 refine Qj <|Qai h0 (λ(s0:Int)=>[(7,ti (s_.length:Int)),(8,ti s0),(0,tsl Qaq s_),(1,QkL.ty f_)]) (λ(s0:Int)=>[]) [0,1,2,3] ?_;clear h;intro s0 o K1 h ho k1;refine Qa [0,1,2,3,4] ?_;refine Qf λ_ k2=>Qn h (λ_ h=>?_) (λ_ h=>?_)
 ·refine Qq <|k2 <|Qf λ_ k3=>Qj <|Qa [1,3,4,5,6] ?_;have⟨_,_,_,_,h⟩:=bs2 h;refine Qa [5,6,7,8,9,10] ?_;refine Qn h (λ_ h=>?_) (λ_ h=>?_)
  ·refine Qa [1] ?_;refine Qal ?_;exact Qu J1 (ho _ (sj h).symm) [0]
  refine Qq <|k3 <|QJ [1,4,5,6] ?_;exact Qu k1 ((sj h).symm) [1,0,2,3]
 refine QN <|Qu J0 (ho _ (sj h).symm) []
def Qbu (s_:(List QO)) (f_:(QO->Option Bool)):Option (Bool):=(Qb1 s_ f_).bind λt0=>(some (decide (t0>=0)))
instance QoB:Spc2 prog 204 Qbu (λs_ f_=>[tsl Qaq s_,QkL.ty f_]) tb:=.mk λ{s_ f_ r} h=>by
 unfold Qbu at h
 refine Fe func204 ntmps204 λM0 M w0 hpl=>?_
 refine Qa [1,2] ?_
 have⟨_,_,h⟩:=bs h
 refine Qa [4] ?_
 exact Qo h (·▸Qm hpl)
def Qds (l_:(List QO)) (right_:(QO->Option Bool)):Option (Bool):=(Qbu l_ (λx0=>Qfx x0 right_)).bind λt0=>(some (!t0))
instance Que:Spc2 prog 169 Qds (λl_ right_=>[tsl Qaq l_,QkL.ty right_]) tb:=.mk λ{l_ right_ r} h=>by
 unfold Qds at h
 refine Fe func169 ntmps169 λM0 M w0 hpl=>?_
 refine Qa [0,2] ?_
 have⟨_,_,h⟩:=bs h
 refine Qa [4] ?_
 exact Qo h (·▸Qm hpl)
def Qfa (x_:QA):Option (Bool):=(Qap x_.Xj).bind λt0=>(opt (t0==true) (Qba (x_.Xe.length:Int) 1 12) default).bind λt1=>(opt ((t0&&t1)==true) (QcG x_.Xe (λx0=>Qap x0)) default).bind λt2=>(opt ((((t0&&t1)&&t2)&&(decide ((x_.Xg.length:Int)<=32)))==true) (Qds x_.Xg (λx0=>Qed x0 (x_.Xe.length:Int))) default).bind λt3=>(some ((((t0&&t1)&&t2)&&(decide ((x_.Xg.length:Int)<=32)))&&t3))
instance Qyy:Spc1 prog 123 Qfa (λx_=>[QH.ty x_]) tb:=.mk λ{x_ r} h=>by
 unfold Qfa at h
 refine Fe func123 ntmps123 λM0 M w0 hpl=>?_
 refine Qa [0] ?_
 refine QM [v1 3 (λv0=>box (rI.cs (0:Int)) v0),v1 3 (λv0=>box (rI.cs (x_.Xe.length:Int)) v0)] [4,5] [3,4] λm0=>?_
 refine Q1 (λ_ _ H=>((H.Xl 0 rfl).add 0 rfl (λ_ _ _ h=>h.2)).pick [0,3]) ?_
 have⟨_,_,_,_,_,_,_,_,h⟩:=bs4 h
 refine Qa [24] ?_
 exact Qo h (·▸Qm hpl)
def Qgq (x_:Qs) (c0_:(Qs->Option Bool)):Option (Bool):=(c0_ x_).bind λt0=>(some (!t0))
instance Quf:Spc2 prog 171 Qgq (λx_ c0_=>[QC.ty x_,tptr (QkG.cs c0_)]) tb:=.mk λ{x_ c0_ r} h=>by
 unfold Qgq at h
 refine Fe func171 ntmps171 λM0 M w0 hpl=>?_
 refine Qa [0,3] ?_
 have⟨_,_,h⟩:=bs h
 refine Qa [4] ?_
 exact Qo h (·▸Qm hpl)
