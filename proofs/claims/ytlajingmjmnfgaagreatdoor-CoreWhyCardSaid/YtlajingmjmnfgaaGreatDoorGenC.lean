/- The walk. No condition. -/
import Derived.Test.YtlajingmjmnfgaaGreatDoorGenB
set_option linter.all false
open Go.Proofs.Tryz Go.IntKind
namespace Go.Proofs.YtlajingmjmnfgaaGreatDoor
noncomputable section
open Go.Sim
set_option maxRecDepth 100000
set_option maxHeartbeats 4000000
def Qcl (s_:(List Int)) (f_:(Int->Option Bool)):Option (Int):=(Qm (λ(s0:Int)=>((if (decide (s0<(s_.length:Int)))=true then (idx s_ s0).bind λt0=>(f_ t0).bind λt1=>(if t1=true then (some (.inr (.inr s0))) else (some (.inl (i64.wrap (s0+1))))) else (some (.inr (.inl ())))):Option ((Int)⊕((Unit)⊕(Int))))) (0:Int)).bind λe0=>(match e0 with | .inl _=>(some (-1:Int)) | .inr p0=>(some p0))
instance QqY:Spc2 prog 221 Qcl (λs_ f_=>[tsl (rInt .u8) s_,QnM.ty f_]) ti:=.mk λ{s_ f_ r} h=>by
 unfold Qcl at h
 refine Fe func221 ntmps221 λM0 M w0 hpl=>?_
 refine Qa [1,2] ?_
 refine Qf λK0 k0=>?_
 refine Qa [1,2,3,4] ?_
 have⟨e0,h0,h⟩:=bs h
 have J0:∀(p0:Unit),(.inl p0)=e0->To M w0 19 [] [] K0:=by
  intro p0 he;subst he;simp only at h;refine k0 <|Qa [0] ?_;exact Qo h (·▸Ql hpl)
 have J1:∀(p1:Int),(.inr p1)=e0->To M w0 19 [(4,ti p1)] [] (Ret prog f221 M0 [] w0 (λ_=>[]) (λ_=>ti r) .ret):=by
  intro p1 he;subst he;simp only at h;obtain rfl:=sj h;exact Ql hpl
 refine Qj <|Qai h0 (λ(s0:Int)=>[(7,ti (s_.length:Int)),(8,ti s0),(0,tsl (rInt .u8) s_),(1,QnM.ty f_)]) (λ(s0:Int)=>[]) [0,1,2,3] ?_;clear h;intro s0 o K1 h ho k1;refine Qa [0,1,2,3,4] ?_;refine Qf λ_ k2=>Qn h (λ_ h=>?_) (λ_ h=>?_)
 ·refine Qq <|k2 <|Qf λ_ k3=>Qj <|Qa [1,3,4,5,6] ?_;have⟨_,_,_,_,h⟩:=bs2 h;refine Qa [5,6,7,8,9,10] ?_;refine Qn h (λ_ h=>?_) (λ_ h=>?_)
  ·refine Qa [1] ?_;refine Qam ?_;exact Qu J1 (ho _ (sj h).symm) [0]
  refine Qq <|k3 <|QL [1,4,5,6] ?_;exact Qu k1 ((sj h).symm) [1,0,2,3]
 refine QO <|Qu J0 (ho _ (sj h).symm) []
def QbL (s_:(List Int)) (f_:(Int->Option Bool)):Option (Bool):=(Qcl s_ f_).bind λt0=>(some (decide (t0>=0)))
instance Qh6:Spc2 prog 195 QbL (λs_ f_=>[tsl (rInt .u8) s_,QnM.ty f_]) tb:=.mk λ{s_ f_ r} h=>by
 unfold QbL at h
 refine Fe func195 ntmps195 λM0 M w0 hpl=>?_
 refine Qa [1,2] ?_
 have⟨_,_,h⟩:=bs h
 refine Qa [4] ?_
 exact Qo h (·▸Ql hpl)
def Qho (c_:Int):Option (Bool):=(some ((decide (c_>=48))&&(decide (c_<=57))))
instance QwW:Spc1 prog 197 Qho (λc_=>[tv (.int .u8 c_)]) tb:=.mk λ{c_ r} h=>by
 unfold Qho at h
 refine Fe func197 ntmps197 λM0 M w0 hpl=>?_
 refine Qa [1] ?_
 refine Qa [6] ?_
 exact Qo h (·▸Ql hpl)
def Qg7 (c_:Int):Option (Bool):=(QdV c_).bind λt0=>(opt ((!t0)==true) (Qho c_) default).bind λt1=>(some ((!t0)&&(!t1)))
instance Qlx:Spc1 prog 196 Qg7 (λc_=>[tv (.int .u8 c_)]) tb:=.mk λ{c_ r} h=>by
 unfold Qg7 at h
 refine Fe func196 ntmps196 λM0 M w0 hpl=>?_
 refine Qa [1] ?_
 have⟨_,_,_,_,h⟩:=bs2 h
 refine Qa [8] ?_
 exact Qo h (·▸Ql hpl)
def Qas (s_:Str):Option (Bool):=(Qbb (s_.length:Int) 1 12).bind λt0=>(opt ((!t0)==false) (idx s_ 0) default).bind λt1=>(opt ((!t0)==false) (QdV (t1.toNat:Int)) default).bind λt2=>(if ((!t0)||(!t2))=true then (some false) else (QbL (Q0 s_) (λx0=>Qg7 x0)).bind λt3=>(some (!t3)))
instance QxX:Spc1 prog 163 Qas (λs_=>[tv (.string (sB s_))]) tb:=.mk λ{s_ r} h=>by
 unfold Qas at h
 refine Fe func163 ntmps163 λM0 M w0 hpl=>?_
 refine Qa [1] ?_
 have⟨_,_,_,_,_,_,h⟩:=bs3 h
 refine tIfs h [9,10] (λ_ h=>?_) (λ_ h=>?_)
 ·refine Qa [0] ?_
  exact Qo h (·▸Ql hpl)
 have⟨t0,h0,h⟩:=bs h
 intro a w H
 refine sr mx [] H (λ_=>.q 1 rfl<|.o (op_s2b ud9 QnP ud5 z0)<|.o (QN QsJ (Qh6.ok h0) (.cons (.of z0)<|.cons (.of (Fct.Xp .fnE (QeQ QsK (λ_ _ hq=>Qlx.ok hq))))<|.nil))<|.o (Qi3 z0)<|.o (Qr z0)<|.n) λ_ a w H=>?_
 have H:=H.t1_0 [4]
 refine Q2 H ?_
 exact Qo h (·▸Ql hpl)
def Qdi (lo_:Int) (hi_:Int) (least_:Int) (most_:Int):Option (Bool):=(some (((decide (lo_>=least_))&&(decide (lo_<=hi_)))&&(decide (hi_<=most_))))
instance QBk:Spc4 prog 164 Qdi (λlo_ hi_ least_ most_=>[ti lo_,ti hi_,ti least_,ti most_]) tb:=.mk λ{lo_ hi_ least_ most_ r} h=>by
 unfold Qdi at h
 refine Fe func164 ntmps164 λM0 M w0 hpl=>?_
 refine Qa [1,2,3,4] ?_
 refine Qa [13] ?_
 exact Qo h (·▸Ql hpl)
def QfT (x_:Qd) (c0_:(Qd->Option Bool)):Option (Bool):=(c0_ x_).bind λt0=>(some (!t0))
instance QsW:Spc2 prog 199 QfT (λx_ c0_=>[Qe.ty x_,tptr (Qky.cs c0_)]) tb:=.mk λ{x_ c0_ r} h=>by
 unfold QfT at h
 refine Fe func199 ntmps199 λM0 M w0 hpl=>?_
 refine Qa [0,3] ?_
 have⟨_,_,h⟩:=bs h
 refine Qa [4] ?_
 exact Qo h (·▸Ql hpl)
def Qbx (s_:(List Qd)) (f_:(Qd->Option Bool)):Option (Int):=(Qm (λ(s0:Int)=>((if (decide (s0<(s_.length:Int)))=true then (idx s_ s0).bind λt0=>(f_ t0).bind λt1=>(if t1=true then (some (.inr (.inr s0))) else (some (.inl (i64.wrap (s0+1))))) else (some (.inr (.inl ())))):Option ((Int)⊕((Unit)⊕(Int))))) (0:Int)).bind λe0=>(match e0 with | .inl _=>(some (-1:Int)) | .inr p0=>(some p0))
instance Qqe:Spc2 prog 128 Qbx (λs_ f_=>[tsl Qe s_,Qky.ty f_]) ti:=.mk λ{s_ f_ r} h=>by
 unfold Qbx at h
 refine Fe func128 ntmps128 λM0 M w0 hpl=>?_
 refine Qa [1,2] ?_
 refine Qf λK0 k0=>?_
 refine Qa [1,2,3,4] ?_
 have⟨e0,h0,h⟩:=bs h
 have J0:∀(p0:Unit),(.inl p0)=e0->To M w0 19 [] [] K0:=by
  intro p0 he;subst he;simp only at h;refine k0 <|Qa [0] ?_;exact Qo h (·▸Ql hpl)
 have J1:∀(p1:Int),(.inr p1)=e0->To M w0 19 [(4,ti p1)] [] (Ret prog f128 M0 [] w0 (λ_=>[]) (λ_=>ti r) .ret):=by
  intro p1 he;subst he;simp only at h;obtain rfl:=sj h;exact Ql hpl
 refine Qj <|Qai h0 (λ(s0:Int)=>[(7,ti (s_.length:Int)),(8,ti s0),(0,tsl Qe s_),(1,Qky.ty f_)]) (λ(s0:Int)=>[]) [0,1,2,3] ?_;clear h;intro s0 o K1 h ho k1;refine Qa [0,1,2,3,4] ?_;refine Qf λ_ k2=>Qn h (λ_ h=>?_) (λ_ h=>?_)
 ·refine Qq <|k2 <|Qf λ_ k3=>Qj <|Qa [1,3,4,5,6] ?_;have⟨_,_,_,_,h⟩:=bs2 h;refine Qa [5,6,7,8,9,10] ?_;refine Qn h (λ_ h=>?_) (λ_ h=>?_)
  ·refine Qa [1] ?_;refine Qam ?_;exact Qu J1 (ho _ (sj h).symm) [0]
  refine Qq <|k3 <|QL [1,4,5,6] ?_;exact Qu k1 ((sj h).symm) [1,0,2,3]
 refine QO <|Qu J0 (ho _ (sj h).symm) []
def Qbz (s_:(List Qd)) (f_:(Qd->Option Bool)):Option (Bool):=(Qbx s_ f_).bind λt0=>(some (decide (t0>=0)))
instance QoI:Spc2 prog 198 Qbz (λs_ f_=>[tsl Qe s_,Qky.ty f_]) tb:=.mk λ{s_ f_ r} h=>by
 unfold Qbz at h
 refine Fe func198 ntmps198 λM0 M w0 hpl=>?_
 refine Qa [1,2] ?_
 have⟨_,_,h⟩:=bs h
 refine Qa [4] ?_
 exact Qo h (·▸Ql hpl)
def QdC (l_:(List Qd)) (right_:(Qd->Option Bool)):Option (Bool):=(Qbz l_ (λx0=>QfT x0 right_)).bind λt0=>(some (!t0))
instance Quw:Spc2 prog 165 QdC (λl_ right_=>[tsl Qe l_,Qky.ty right_]) tb:=.mk λ{l_ right_ r} h=>by
 unfold QdC at h
 refine Fe func165 ntmps165 λM0 M w0 hpl=>?_
 refine Qa [0,2] ?_
 have⟨_,_,h⟩:=bs h
 refine Qa [4] ?_
 exact Qo h (·▸Ql hpl)
def Qf6 (f_:Qd):Option (Qd):=((if (f_.Xi==0)=true then (some (Qd.mk f_.Xj ([]:Str) ([]:Str) f_.Xi f_.Lo 0 ([]:(List Str)) ([]:(List Int)))) else ((if (f_.Xi==1)=true then (some (f_.Xi==1)) else ((if (f_.Xi==4)=true then (some (f_.Xi==4)) else (some (f_.Xi==5)))).bind λp0=>(some p0))).bind λp1=>((if p1=true then (some (Qd.mk f_.Xj f_.Of ([]:Str) f_.Xi f_.Lo f_.Hi ([]:(List Str)) ([]:(List Int)))) else ((if (f_.Xi==2)=true then (some (Qd.mk f_.Xj ([]:Str) ([]:Str) f_.Xi f_.Lo f_.Hi ([]:(List Str)) ([]:(List Int)))) else ((if (f_.Xi==3)=true then (some (Qd.mk f_.Xj ([]:Str) ([]:Str) f_.Xi 0 0 f_.Words f_.Xf)) else ((if (f_.Xi==6)=true then (some (Qd.mk f_.Xj f_.Of ([]:Str) f_.Xi 0 0 ([]:(List Str)) ([]:(List Int)))) else ((if (f_.Xi==7)=true then (some (Qd.mk f_.Xj f_.Of f_.Up f_.Xi f_.Lo f_.Hi ([]:(List Str)) ([]:(List Int)))) else ((if (f_.Xi==8)=true then (some (Qd.mk f_.Xj f_.Of f_.Up f_.Xi 0 0 ([]:(List Str)) ([]:(List Int)))) else (some (Qd.mk f_.Xj ([]:Str) ([]:Str) f_.Xi 0 0 ([]:(List Str)) ([]:(List Int)))))).bind λp2=>(some p2))).bind λp3=>(some p3))).bind λp4=>(some p4))).bind λp5=>(some p5))).bind λp6=>(some p6))).bind λp7=>(some p7))).bind λp8=>(some p8)
instance QBl:Spc1 prog 200 Qf6 (λf_=>[Qe.ty f_]) Qe.ty:=.mk λ{f_ r} h=>by
 unfold Qf6 at h
 refine Fe func200 ntmps200 λM0 M w0 hpl=>?_
 refine QJ [v1 1 (λv0=>box (Qe.cs zz0) v0)] [2] [0,1] λm0=>?_
 refine QJ [v1 5 (λv0=>box (Qe.cs zz0) v0),v1 5 (λv0=>box (Qe.cs (Qd.mk f_.Xj ([]:Str) ([]:Str) f_.Xi (0:Int) (0:Int) ([]:(List Str)) ([]:(List Int)))) v0)] [6,7] [5,6,7] λm1=>?_
 refine Qf λK0 k0=>?_
 refine Qa [1,2,3,4] ?_
 refine Qj ?_
 refine Qa [1,2,3,4,5] ?_
 have⟨p0,h0,h⟩:=bs h
 have J0:To M w0 73 [(3,tv (m1 5)),(2,tv (m0 1))] [box (Qe.cs zz0) (m0 1),box (Qe.cs p0) (m1 5)] K0:=by
  refine k0 <|QJ [v0 (box (Qe.cs p0) (m0 1))] [2] [2] λm2=>?_;refine QY (λ_ _ H=>H.Xk [1] rfl) ?_;exact Qo h (·▸Ql hpl)
 replace h:=h0;clear h0;refine Qn h (λ_ h=>?_) (λ_ h=>?_)
 ·refine Qal [v0 (box (Qe.cs (Qd.mk f_.Xj ([]:Str) ([]:Str) f_.Xi f_.Lo (0:Int) ([]:(List Str)) ([]:(List Int)))) (m1 5))] [4] [5,7] λm3=>?_;obtain rfl:=sj h;exact QK J0 [0,1]
 refine Qf λK1 k1=>Qa [1,3,4,5,6] ?_;have⟨p1,h1,h⟩:=bs h;have J1:To M w0 73 [(16,tb p1),(10,ti f_.Xi),(3,tv (m1 5)),(1,tptr (Qe.cs f_)),(2,tv (m0 1))] [box (Qe.cs zz0) (m0 1),box (Qe.cs (Qd.mk f_.Xj ([]:Str) ([]:Str) f_.Xi (0:Int) (0:Int) ([]:(List Str)) ([]:(List Int)))) (m1 5)] K1:=by
  refine k1 ?_;have⟨p2,h2,h⟩:=bs h;have J2:To M w0 73 [(3,tv (m1 5)),(2,tv (m0 1))] [box (Qe.cs zz0) (m0 1),box (Qe.cs p2) (m1 5)] K0:=by
   obtain rfl:=sj h;exact QK J0 [0,1]
  replace h:=h2;clear h2;refine Qn h (λ_ h=>?_) (λ_ h=>?_)
  ·refine Qal [v0 (box (Qe.cs (Qd.mk f_.Xj f_.Of ([]:Str) f_.Xi (0:Int) (0:Int) ([]:(List Str)) ([]:(List Int)))) (m1 5)),v0 (box (Qe.cs (Qd.mk f_.Xj f_.Of ([]:Str) f_.Xi f_.Lo (0:Int) ([]:(List Str)) ([]:(List Int)))) (m1 5)),v0 (box (Qe.cs (Qd.mk f_.Xj f_.Of ([]:Str) f_.Xi f_.Lo f_.Hi ([]:(List Str)) ([]:(List Int)))) (m1 5))] [8,10,12] [11,13] λm4=>?_;obtain rfl:=sj h;exact QK J2 [0,1]
  refine Qa [1,3,4,5,6] ?_;have⟨p3,h3,h⟩:=bs h;have J3:To M w0 73 [(3,tv (m1 5)),(2,tv (m0 1))] [box (Qe.cs zz0) (m0 1),box (Qe.cs p3) (m1 5)] K0:=by
   obtain rfl:=sj h;exact QK J2 [0,1]
  replace h:=h3;clear h3;refine Qn h (λ_ h=>?_) (λ_ h=>?_)
  ·refine Qal [v0 (box (Qe.cs (Qd.mk f_.Xj ([]:Str) ([]:Str) f_.Xi f_.Lo (0:Int) ([]:(List Str)) ([]:(List Int)))) (m1 5)),v0 (box (Qe.cs (Qd.mk f_.Xj ([]:Str) ([]:Str) f_.Xi f_.Lo f_.Hi ([]:(List Str)) ([]:(List Int)))) (m1 5))] [6,8] [8,10] λm5=>?_;obtain rfl:=sj h;exact QK J3 [0,1]
  refine Qa [1,3,4,5,6] ?_;have⟨p4,h4,h⟩:=bs h;have J4:To M w0 73 [(3,tv (m1 5)),(2,tv (m0 1))] [box (Qe.cs zz0) (m0 1),box (Qe.cs p4) (m1 5)] K0:=by
   obtain rfl:=sj h;exact QK J3 [0,1]
  replace h:=h4;clear h4;refine Qn h (λ_ h=>?_) (λ_ h=>?_)
  ·refine Qal [v0 (box (Qe.cs (Qd.mk f_.Xj ([]:Str) ([]:Str) f_.Xi (0:Int) (0:Int) f_.Words ([]:(List Int)))) (m1 5)),v0 (box (Qe.cs (Qd.mk f_.Xj ([]:Str) ([]:Str) f_.Xi (0:Int) (0:Int) f_.Words f_.Xf)) (m1 5))] [6,8] [8,10] λm6=>?_;obtain rfl:=sj h;exact QK J4 [0,1]
  refine Qa [1,3,4,5,6] ?_;have⟨p5,h5,h⟩:=bs h;have J5:To M w0 73 [(3,tv (m1 5)),(2,tv (m0 1))] [box (Qe.cs zz0) (m0 1),box (Qe.cs p5) (m1 5)] K0:=by
   obtain rfl:=sj h;exact QK J4 [0,1]
  replace h:=h5;clear h5;refine Qn h (λ_ h=>?_) (λ_ h=>?_)
  ·refine Qal [v0 (box (Qe.cs (Qd.mk f_.Xj f_.Of ([]:Str) f_.Xi (0:Int) (0:Int) ([]:(List Str)) ([]:(List Int)))) (m1 5))] [4] [5,7] λm7=>?_;obtain rfl:=sj h;exact QK J5 [0,1]
  refine Qa [1,3,4,5,6] ?_;have⟨p6,h6,h⟩:=bs h;have J6:To M w0 73 [(3,tv (m1 5)),(2,tv (m0 1))] [box (Qe.cs zz0) (m0 1),box (Qe.cs p6) (m1 5)] K0:=by
   obtain rfl:=sj h;exact QK J5 [0,1]
  replace h:=h6;clear h6;refine Qn h (λ_ h=>?_) (λ_ h=>?_)
  ·refine Qal [v0 (box (Qe.cs (Qd.mk f_.Xj f_.Of ([]:Str) f_.Xi (0:Int) (0:Int) ([]:(List Str)) ([]:(List Int)))) (m1 5)),v0 (box (Qe.cs (Qd.mk f_.Xj f_.Of f_.Up f_.Xi (0:Int) (0:Int) ([]:(List Str)) ([]:(List Int)))) (m1 5)),v0 (box (Qe.cs (Qd.mk f_.Xj f_.Of f_.Up f_.Xi f_.Lo (0:Int) ([]:(List Str)) ([]:(List Int)))) (m1 5)),v0 (box (Qe.cs (Qd.mk f_.Xj f_.Of f_.Up f_.Xi f_.Lo f_.Hi ([]:(List Str)) ([]:(List Int)))) (m1 5))] [10,12,14,16] [14,16] λm8=>?_;obtain rfl:=sj h;exact QK J6 [0,1]
  refine Qa [1,4,5,6] ?_;have⟨p7,h7,h⟩:=bs h;have J7:To M w0 73 [(3,tv (m1 5)),(2,tv (m0 1))] [box (Qe.cs zz0) (m0 1),box (Qe.cs p7) (m1 5)] K0:=by
   obtain rfl:=sj h;exact QK J6 [0,1]
  replace h:=h7;clear h7;refine Qn h (λ_ h=>?_) (λ_ h=>?_)
  ·refine Qal [v0 (box (Qe.cs (Qd.mk f_.Xj f_.Of ([]:Str) f_.Xi (0:Int) (0:Int) ([]:(List Str)) ([]:(List Int)))) (m1 5)),v0 (box (Qe.cs (Qd.mk f_.Xj f_.Of f_.Up f_.Xi (0:Int) (0:Int) ([]:(List Str)) ([]:(List Int)))) (m1 5))] [6,8] [7,9] λm9=>?_;obtain rfl:=sj h;exact QK J7 [0,1]
  refine Qq ?_;obtain rfl:=sj h;exact QK J7 [1,3]
 replace h:=h1;clear h1;refine Qn h (λ_ h=>?_) (λ_ h=>?_)
 ·refine Qq ?_;obtain rfl:=sj h;exact QK J1 [0,1,2,3,4]
 refine Qa [1,2,3,4,5] ?_;have⟨p8,h8,h⟩:=bs h;have J8:To M w0 73 [(16,tb p8),(10,ti f_.Xi),(3,tv (m1 5)),(1,tptr (Qe.cs f_)),(2,tv (m0 1))] [box (Qe.cs zz0) (m0 1),box (Qe.cs (Qd.mk f_.Xj ([]:Str) ([]:Str) f_.Xi (0:Int) (0:Int) ([]:(List Str)) ([]:(List Int)))) (m1 5)] K1:=by
  obtain rfl:=sj h;exact QK J1 [0,1,2,3,4]
 replace h:=h8;clear h8;refine Qn h (λ_ h=>?_) (λ_ h=>?_)
 ·refine Qq ?_;obtain rfl:=sj h;exact QK J8 [0,1,2,3,4]
 refine QL [1,2,3,4,5] ?_;obtain rfl:=sj h;exact QK J8 [0,1,2,3,4]
def QcK (s1_:(List Str)) (s2_:(List Str)):Option (Bool):=(if ((s1_.length:Int) !=(s2_.length:Int))=true then (some false) else (Qm (λ(s0:Int)=>((if (decide (s0<(s1_.length:Int)))=true then (idx s1_ s0).bind λt0=>(idx s2_ s0).bind λt1=>(if (t0 !=t1)=true then (some (.inr (.inr false))) else (some (.inl (i64.wrap (s0+1))))) else (some (.inr (.inl ())))):Option ((Int)⊕((Unit)⊕(Bool))))) (0:Int)).bind λe0=>(match e0 with | .inl _=>(some true) | .inr p0=>(some p0)))
instance Qr2:Spc2 prog 70 QcK (λs1_ s2_=>[tsl rS s1_,tsl rS s2_]) tb:=.mk λ{s1_ s2_ r} h=>by
 unfold QcK at h
 refine Fe func70 ntmps70 λM0 M w0 hpl=>?_
 refine Qa [1,2] ?_
 refine tIfs h [4,5,6] (λ_ h=>?_) (λ_ h=>?_)
 ·refine Qa [0] ?_
  exact Qo h (·▸Ql hpl)
 refine Qf λK0 k0=>?_
 refine Qa [1,2,4,5] ?_
 have⟨e0,h0,h⟩:=bs h
 have J0:∀(p0:Unit),(.inl p0)=e0->To M w0 26 [] [] K0:=by
  intro p0 he;subst he;simp only at h;refine k0 <|Qa [0] ?_;exact Qo h (·▸Ql hpl)
 have J1:∀(p1:Bool),(.inr p1)=e0->To M w0 26 [(4,tb p1)] [] (Ret prog f70 M0 [] w0 (λ_=>[]) (λ_=>tb r) .ret):=by
  intro p1 he;subst he;simp only at h;obtain rfl:=sj h;exact Ql hpl
 refine Qj <|Qai h0 (λ(s0:Int)=>[(12,ti (s1_.length:Int)),(13,ti s0),(0,tsl rS s1_),(1,tsl rS s2_)]) (λ(s0:Int)=>[]) [0,1,2,3] ?_;clear h;intro s0 o K1 h ho k1;refine Qa [0,1,2,3,4] ?_;refine Qf λ_ k2=>Qn h (λ_ h=>?_) (λ_ h=>?_)
 ·refine Qq <|k2 <|Qf λ_ k3=>Qj <|Qa [1,3,4,5,6] ?_;have⟨_,_,_,_,h⟩:=bs2 h;refine Qa [8,10,11,12,13] ?_;refine Qn h (λ_ h=>?_) (λ_ h=>?_)
  ·refine Qa [0] ?_;refine Qam ?_;exact Qu J1 (ho _ (sj h).symm) [0]
  refine Qq <|k3 <|QL [1,3,4,5] ?_;exact Qu k1 ((sj h).symm) [1,0,2,3]
 refine QO <|Qu J0 (ho _ (sj h).symm) []
def QdD (s1_:(List Int)) (s2_:(List Int)):Option (Bool):=(if ((s1_.length:Int) !=(s2_.length:Int))=true then (some false) else (Qm (λ(s0:Int)=>((if (decide (s0<(s1_.length:Int)))=true then (idx s1_ s0).bind λt0=>(idx s2_ s0).bind λt1=>(if (t0 !=t1)=true then (some (.inr (.inr false))) else (some (.inl (i64.wrap (s0+1))))) else (some (.inr (.inl ())))):Option ((Int)⊕((Unit)⊕(Bool))))) (0:Int)).bind λe0=>(match e0 with | .inl _=>(some true) | .inr p0=>(some p0)))
instance Qux:Spc2 prog 114 QdD (λs1_ s2_=>[tsl rI s1_,tsl rI s2_]) tb:=.mk λ{s1_ s2_ r} h=>by
 unfold QdD at h
 refine Fe func114 ntmps114 λM0 M w0 hpl=>?_
 refine Qa [1,2] ?_
 refine tIfs h [4,5,6] (λ_ h=>?_) (λ_ h=>?_)
 ·refine Qa [0] ?_
  exact Qo h (·▸Ql hpl)
 refine Qf λK0 k0=>?_
 refine Qa [1,2,4,5] ?_
 have⟨e0,h0,h⟩:=bs h
 have J0:∀(p0:Unit),(.inl p0)=e0->To M w0 26 [] [] K0:=by
  intro p0 he;subst he;simp only at h;refine k0 <|Qa [0] ?_;exact Qo h (·▸Ql hpl)
 have J1:∀(p1:Bool),(.inr p1)=e0->To M w0 26 [(4,tb p1)] [] (Ret prog f114 M0 [] w0 (λ_=>[]) (λ_=>tb r) .ret):=by
  intro p1 he;subst he;simp only at h;obtain rfl:=sj h;exact Ql hpl
 refine Qj <|Qai h0 (λ(s0:Int)=>[(12,ti (s1_.length:Int)),(13,ti s0),(0,tsl rI s1_),(1,tsl rI s2_)]) (λ(s0:Int)=>[]) [0,1,2,3] ?_;clear h;intro s0 o K1 h ho k1;refine Qa [0,1,2,3,4] ?_;refine Qf λ_ k2=>Qn h (λ_ h=>?_) (λ_ h=>?_)
 ·refine Qq <|k2 <|Qf λ_ k3=>Qj <|Qa [1,3,4,5,6] ?_;have⟨_,_,_,_,h⟩:=bs2 h;refine Qa [8,10,11,12,13] ?_;refine Qn h (λ_ h=>?_) (λ_ h=>?_)
  ·refine Qa [0] ?_;refine Qam ?_;exact Qu J1 (ho _ (sj h).symm) [0]
  refine Qq <|k3 <|QL [1,3,4,5] ?_;exact Qu k1 ((sj h).symm) [1,0,2,3]
 refine QO <|Qu J0 (ho _ (sj h).symm) []
def QdE (a_:Qd) (b_:Qd):Option (Bool):=(opt (((((((a_.Xj==b_.Xj)&&(a_.Of==b_.Of))&&(a_.Up==b_.Up))&&(a_.Xi==b_.Xi))&&(a_.Lo==b_.Lo))&&(a_.Hi==b_.Hi))==true) (QcK a_.Words b_.Words) default).bind λt0=>(opt ((((((((a_.Xj==b_.Xj)&&(a_.Of==b_.Of))&&(a_.Up==b_.Up))&&(a_.Xi==b_.Xi))&&(a_.Lo==b_.Lo))&&(a_.Hi==b_.Hi))&&t0)==true) (QdD a_.Xf b_.Xf) default).bind λt1=>(some ((((((((a_.Xj==b_.Xj)&&(a_.Of==b_.Of))&&(a_.Up==b_.Up))&&(a_.Xi==b_.Xi))&&(a_.Lo==b_.Lo))&&(a_.Hi==b_.Hi))&&t0)&&t1))
instance Quy:Spc2 prog 67 QdE (λa_ b_=>[Qe.ty a_,Qe.ty b_]) tb:=.mk λ{a_ b_ r} h=>by
 unfold QdE at h
 refine Fe func67 ntmps67 λM0 M w0 hpl=>?_
 refine Qa [0,1] ?_
 have⟨_,_,_,_,h⟩:=bs2 h
 refine Qa [54] ?_
 exact Qo h (·▸Ql hpl)
def Qfl (x_:Str) (c0_:(Str->Option Bool)):Option (Bool):=(c0_ x_).bind λt0=>(some (!t0))
instance Qr3:Spc2 prog 203 Qfl (λx_ c0_=>[tv (.string (sB x_)),tptr (Qkz.cs c0_)]) tb:=.mk λ{x_ c0_ r} h=>by
 unfold Qfl at h
 refine Fe func203 ntmps203 λM0 M w0 hpl=>?_
 refine Qa [1,2] ?_
 have⟨_,_,h⟩:=bs h
 refine Qa [4] ?_
 exact Qo h (·▸Ql hpl)
def QbS (s_:(List Str)) (f_:(Str->Option Bool)):Option (Int):=(Qm (λ(s0:Int)=>((if (decide (s0<(s_.length:Int)))=true then (idx s_ s0).bind λt0=>(f_ t0).bind λt1=>(if t1=true then (some (.inr (.inr s0))) else (some (.inl (i64.wrap (s0+1))))) else (some (.inr (.inl ())))):Option ((Int)⊕((Unit)⊕(Int))))) (0:Int)).bind λe0=>(match e0 with | .inl _=>(some (-1:Int)) | .inr p0=>(some p0))
instance QpT:Spc2 prog 222 QbS (λs_ f_=>[tsl rS s_,Qkz.ty f_]) ti:=.mk λ{s_ f_ r} h=>by
 unfold QbS at h
 refine Fe func222 ntmps222 λM0 M w0 hpl=>?_
 refine Qa [1,2] ?_
 refine Qf λK0 k0=>?_
 refine Qa [1,2,3,4] ?_
 have⟨e0,h0,h⟩:=bs h
 have J0:∀(p0:Unit),(.inl p0)=e0->To M w0 19 [] [] K0:=by
  intro p0 he;subst he;simp only at h;refine k0 <|Qa [0] ?_;exact Qo h (·▸Ql hpl)
 have J1:∀(p1:Int),(.inr p1)=e0->To M w0 19 [(4,ti p1)] [] (Ret prog f222 M0 [] w0 (λ_=>[]) (λ_=>ti r) .ret):=by
  intro p1 he;subst he;simp only at h;obtain rfl:=sj h;exact Ql hpl
 refine Qj <|Qai h0 (λ(s0:Int)=>[(7,ti (s_.length:Int)),(8,ti s0),(0,tsl rS s_),(1,Qkz.ty f_)]) (λ(s0:Int)=>[]) [0,1,2,3] ?_;clear h;intro s0 o K1 h ho k1;refine Qa [0,1,2,3,4] ?_;refine Qf λ_ k2=>Qn h (λ_ h=>?_) (λ_ h=>?_)
 ·refine Qq <|k2 <|Qf λ_ k3=>Qj <|Qa [1,3,4,5,6] ?_;have⟨_,_,_,_,h⟩:=bs2 h;refine Qa [5,6,7,8,9,10] ?_;refine Qn h (λ_ h=>?_) (λ_ h=>?_)
  ·refine Qa [1] ?_;refine Qam ?_;exact Qu J1 (ho _ (sj h).symm) [0]
  refine Qq <|k3 <|QL [1,4,5,6] ?_;exact Qu k1 ((sj h).symm) [1,0,2,3]
 refine QO <|Qu J0 (ho _ (sj h).symm) []
def Qbu (s_:(List Str)) (f_:(Str->Option Bool)):Option (Bool):=(QbS s_ f_).bind λt0=>(some (decide (t0>=0)))
instance Qor:Spc2 prog 202 Qbu (λs_ f_=>[tsl rS s_,Qkz.ty f_]) tb:=.mk λ{s_ f_ r} h=>by
 unfold Qbu at h
 refine Fe func202 ntmps202 λM0 M w0 hpl=>?_
 refine Qa [1,2] ?_
 have⟨_,_,h⟩:=bs h
 refine Qa [4] ?_
 exact Qo h (·▸Ql hpl)
def Qcy (l_:(List Str)) (right_:(Str->Option Bool)):Option (Bool):=(Qbu l_ (λx0=>Qfl x0 right_)).bind λt0=>(some (!t0))
instance QtR:Spc2 prog 168 Qcy (λl_ right_=>[tsl rS l_,Qkz.ty right_]) tb:=.mk λ{l_ right_ r} h=>by
 unfold Qcy at h
 refine Fe func168 ntmps168 λM0 M w0 hpl=>?_
 refine Qa [0,2] ?_
 have⟨_,_,h⟩:=bs h
 refine Qa [4] ?_
 exact Qo h (·▸Ql hpl)
def Qc1 (words_:(List Str)) (weights_:(List Int)):Option (Bool):=(Qm (λ(s0:Int×Int)=>((if (decide (s0.1<(weights_.length:Int)))=true then (idx weights_ s0.1).bind λt0=>(Qbb t0 0 1048576).bind λt1=>(if (!t1)=true then (some (.inr (.inr false))) else (some (.inl ((i64.wrap (s0.1+1)),(i64.wrap (s0.2+t0)))))) else (some (.inr (.inl s0.2)))):Option ((Int×Int)⊕((Int)⊕(Bool))))) ((0:Int),(0:Int))).bind λe0=>(match e0 with | .inl p0=>(Qbb (words_.length:Int) 1 12).bind λt2=>(opt (((t2&&((words_.length:Int)==(weights_.length:Int)))&&(decide (p0>0)))==true) (Qcy words_ (λx0=>Qas x0)) default).bind λt3=>(some (((t2&&((words_.length:Int)==(weights_.length:Int)))&&(decide (p0>0)))&&t3)) | .inr p1=>(some p1))
instance QxY:Spc2 prog 201 Qc1 (λwords_ weights_=>[tsl rS words_,tsl rI weights_]) tb:=.mk λ{words_ weights_ r} h=>by
 unfold Qc1 at h
 refine Fe func201 ntmps201 λM0 M w0 hpl=>?_
 refine Qa [1,2] ?_
 refine Qa [0,1,2] ?_
 refine Qf λK0 k0=>?_
 refine Qa [0,1,2,3,4,5] ?_
 have⟨e0,h0,h⟩:=bs h
 have J0:∀(p0:Int),(.inl p0)=e0->To M w0 39 [(5,ti p0),(0,tsl rS words_),(1,tsl rI weights_)] [] K0:=by
  intro p0 he;subst he;simp only at h;refine k0 ?_;have⟨_,_,_,_,h⟩:=bs2 h;refine Qa [18] ?_;exact Qo h (·▸Ql hpl)
 have J1:∀(p1:Bool),(.inr p1)=e0->To M w0 39 [(4,tb p1)] [] (Ret prog f201 M0 [] w0 (λ_=>[]) (λ_=>tb r) .ret):=by
  intro p1 he;subst he;simp only at h;obtain rfl:=sj h;exact Ql hpl
 refine Qj <|Qai h0 (λ(s0:Int×Int)=>[(8,tsl rI weights_),(9,ti (weights_.length:Int)),(10,ti s0.1),(5,ti s0.2),(0,tsl rS words_),(1,tsl rI weights_)]) (λ(s0:Int×Int)=>[]) [0,1,2,3,4,5] ?_;clear h;intro s0 o K1 h ho k1;refine Qa [0,1,2,3,4,5,6] ?_;refine Qf λ_ k2=>Qn h (λ_ h=>?_) (λ_ h=>?_)
 ·refine Qq <|k2 <|Qf λ_ k3=>Qj ?_;have⟨_,_,h⟩:=bs h;refine Qa [2,4,5,6,7,8,9] ?_;have⟨_,_,h⟩:=bs h;refine tIfs h [2,3,4,5,6,7,8,9] (λ_ h=>?_) (λ_ h=>?_)
  ·refine Qa [0] ?_;refine Qam ?_;exact Qu J1 (ho _ (sj h).symm) [0]
  refine QL [3,6,7,8,9,10] ?_;refine k3 <|QL [1,2,3,4,5,6] ?_;exact Qu k1 ((sj h).symm) [2,3,0,1,4,5]
 refine QO <|Qu J0 (ho _ (sj h).symm) [4,5,6]
def Qeo (f_:Qd):Option (Bool):=(Qas f_.Xj).bind λt0=>(opt ((!t0)==false) (Qf6 f_) default).bind λt1=>(opt ((!t0)==false) (QdE f_ t1) default).bind λt2=>(if ((!t0)||(!t2))=true then (some false) else (if (f_.Xi==0)=true then (Qbb f_.Lo (-1048576) 1048576).bind λt3=>(some t3) else (if (f_.Xi==1)=true then (Qas f_.Of).bind λt4=>(opt (t4==true) (Qdi f_.Lo f_.Hi 0 65536) default).bind λt5=>(some (t4&&t5)) else (if (f_.Xi==2)=true then (Qdi f_.Lo f_.Hi (-1048576) 1048576).bind λt6=>(some t6) else (if (f_.Xi==3)=true then (Qc1 f_.Words f_.Xf).bind λt7=>(some t7) else (if (f_.Xi==4)=true then (opt ((f_.Of==([]:Str))==false) (Qas f_.Of) default).bind λt8=>(opt (((f_.Of==([]:Str))||t8)==true) (Qdi f_.Lo f_.Hi (-1048576) 1048576) default).bind λt9=>(some (((f_.Of==([]:Str))||t8)&&t9)) else (if (f_.Xi==5)=true then (Qas f_.Of).bind λt10=>(opt (t10==true) (Qdi f_.Lo f_.Hi 0 32) default).bind λt11=>(some (t10&&t11)) else (if (f_.Xi==6)=true then (Qas f_.Of).bind λt12=>(some t12) else (if (f_.Xi==7)=true then (Qas f_.Of).bind λt13=>(opt (t13==true) (Qas f_.Up) default).bind λt14=>(opt ((t13&&t14)==true) (Qdi f_.Lo f_.Hi 0 1048576) default).bind λt15=>(some ((t13&&t14)&&t15)) else (if (f_.Xi==8)=true then (Qas f_.Of).bind λt16=>(opt (t16==true) (Qas f_.Up) default).bind λt17=>(some (t16&&t17)) else (some false)))))))))))
instance QwX:Spc1 prog 166 Qeo (λf_=>[Qe.ty f_]) tb:=.mk λ{f_ r} h=>by
 unfold Qeo at h
 refine Fe func166 ntmps166 λM0 M w0 hpl=>?_
 refine Qa [0] ?_
 have⟨_,_,_,_,_,_,h⟩:=bs3 h
 refine tIfs h [10,11] (λ_ h=>?_) (λ_ h=>?_)
 ·refine Qa [0] ?_
  exact Qo h (·▸Ql hpl)
 refine Qf λ_ k0=>?_
 refine Qa [1,3] ?_
 refine Qj ?_
 refine Qa [1,2,3] ?_
 refine Qn h (λ_ h=>?_) (λ_ h=>?_)
 ·have⟨_,_,h⟩:=bs h
  refine Qa [3] ?_
  exact Qo h (·▸Ql hpl)
 refine Qa [1,3,4] ?_
 refine Qn h (λ_ h=>?_) (λ_ h=>?_)
 ·have⟨_,_,_,_,h⟩:=bs2 h
  refine Qa [10] ?_
  exact Qo h (·▸Ql hpl)
 refine Qa [1,3,4] ?_
 refine Qn h (λ_ h=>?_) (λ_ h=>?_)
 ·have⟨_,_,h⟩:=bs h
  refine Qa [5] ?_
  exact Qo h (·▸Ql hpl)
 refine Qa [1,3,4] ?_
 refine Qn h (λ_ h=>?_) (λ_ h=>?_)
 ·have⟨_,_,h⟩:=bs h
  refine Qa [5] ?_
  exact Qo h (·▸Ql hpl)
 refine Qa [1,3,4] ?_
 refine Qn h (λ_ h=>?_) (λ_ h=>?_)
 ·have⟨_,_,_,_,h⟩:=bs2 h
  refine Qa [15] ?_
  exact Qo h (·▸Ql hpl)
 refine Qa [1,3,4] ?_
 refine Qn h (λ_ h=>?_) (λ_ h=>?_)
 ·have⟨_,_,_,_,h⟩:=bs2 h
  refine Qa [10] ?_
  exact Qo h (·▸Ql hpl)
 refine Qa [1,3,4] ?_
 refine Qn h (λ_ h=>?_) (λ_ h=>?_)
 ·have⟨_,_,h⟩:=bs h
  refine Qa [3] ?_
  exact Qo h (·▸Ql hpl)
 refine Qa [1,3,4] ?_
 refine Qn h (λ_ h=>?_) (λ_ h=>?_)
 ·have⟨_,_,_,_,_,_,h⟩:=bs3 h
  refine Qa [15] ?_
  exact Qo h (·▸Ql hpl)
 refine Qa [1,4] ?_
 refine Qn h (λ_ h=>?_) (λ_ h=>?_)
 ·have⟨_,_,_,_,h⟩:=bs2 h
  refine Qa [8] ?_
  exact Qo h (·▸Ql hpl)
 refine Qq ?_
 refine k0 ?_
 refine Qa [0] ?_
 exact Qo h (·▸Ql hpl)
def QeS (k_:Qi):Option (Bool):=(Qas k_.Xj).bind λt0=>(opt (t0==true) (Qdi k_.Lo k_.Hi 0 65536) default).bind λt1=>(opt (((t0&&t1)&&(decide ((k_.Xb.length:Int)<=10)))==true) (QdC k_.Xb (λx0=>Qeo x0)) default).bind λt2=>(some (((t0&&t1)&&(decide ((k_.Xb.length:Int)<=10)))&&t2))
instance QxZ:Spc1 prog 121 QeS (λk_=>[Qg.ty k_]) tb:=.mk λ{k_ r} h=>by
 unfold QeS at h
 refine Fe func121 ntmps121 λM0 M w0 hpl=>?_
 refine Qa [0] ?_
 have⟨_,_,_,_,_,_,h⟩:=bs3 h
 refine Qa [21] ?_
 exact Qo h (·▸Ql hpl)
def Qf7 (x_:QC) (c0_:(QC->Option Bool)):Option (Bool):=(c0_ x_).bind λt0=>(some (!t0))
instance QtS:Spc2 prog 167 Qf7 (λx_ c0_=>[QA.ty x_,tptr (Qkw.cs c0_)]) tb:=.mk λ{x_ c0_ r} h=>by
 unfold Qf7 at h
 refine Fe func167 ntmps167 λM0 M w0 hpl=>?_
 refine Qa [0,3] ?_
 have⟨_,_,h⟩:=bs h
 refine Qa [4] ?_
 exact Qo h (·▸Ql hpl)
def Qcm (s_:(List QC)) (f_:(QC->Option Bool)):Option (Int):=(Qm (λ(s0:Int)=>((if (decide (s0<(s_.length:Int)))=true then (idx s_ s0).bind λt0=>(f_ t0).bind λt1=>(if t1=true then (some (.inr (.inr s0))) else (some (.inl (i64.wrap (s0+1))))) else (some (.inr (.inl ())))):Option ((Int)⊕((Unit)⊕(Int))))) (0:Int)).bind λe0=>(match e0 with | .inl _=>(some (-1:Int)) | .inr p0=>(some p0))
instance QqZ:Spc2 prog 127 Qcm (λs_ f_=>[tsl QA s_,Qkw.ty f_]) ti:=.mk λ{s_ f_ r} h=>by
 unfold Qcm at h
 refine Fe func127 ntmps127 λM0 M w0 hpl=>?_
 refine Qa [1,2] ?_
 refine Qf λK0 k0=>?_
 refine Qa [1,2,3,4] ?_
 have⟨e0,h0,h⟩:=bs h
 have J0:∀(p0:Unit),(.inl p0)=e0->To M w0 19 [] [] K0:=by
  intro p0 he;subst he;simp only at h;refine k0 <|Qa [0] ?_;exact Qo h (·▸Ql hpl)
 have J1:∀(p1:Int),(.inr p1)=e0->To M w0 19 [(4,ti p1)] [] (Ret prog f127 M0 [] w0 (λ_=>[]) (λ_=>ti r) .ret):=by
  intro p1 he;subst he;simp only at h;obtain rfl:=sj h;exact Ql hpl
 refine Qj <|Qai h0 (λ(s0:Int)=>[(7,ti (s_.length:Int)),(8,ti s0),(0,tsl QA s_),(1,Qkw.ty f_)]) (λ(s0:Int)=>[]) [0,1,2,3] ?_;clear h;intro s0 o K1 h ho k1;refine Qa [0,1,2,3,4] ?_;refine Qf λ_ k2=>Qn h (λ_ h=>?_) (λ_ h=>?_)
 ·refine Qq <|k2 <|Qf λ_ k3=>Qj <|Qa [1,3,4,5,6] ?_;have⟨_,_,_,_,h⟩:=bs2 h;refine Qa [5,6,7,8,9,10] ?_;refine Qn h (λ_ h=>?_) (λ_ h=>?_)
  ·refine Qa [1] ?_;refine Qam ?_;exact Qu J1 (ho _ (sj h).symm) [0]
  refine Qq <|k3 <|QL [1,4,5,6] ?_;exact Qu k1 ((sj h).symm) [1,0,2,3]
 refine QO <|Qu J0 (ho _ (sj h).symm) []
def Qa1 (s_:(List QC)) (f_:(QC->Option Bool)):Option (Bool):=(Qcm s_ f_).bind λt0=>(some (decide (t0>=0)))
instance Qpj:Spc2 prog 79 Qa1 (λs_ f_=>[tsl QA s_,Qkw.ty f_]) tb:=.mk λ{s_ f_ r} h=>by
 unfold Qa1 at h
 refine Fe func79 ntmps79 λM0 M w0 hpl=>?_
 refine Qa [1,2] ?_
 have⟨_,_,h⟩:=bs h
 refine Qa [4] ?_
 exact Qo h (·▸Ql hpl)
