/- Go functions as Lean functions, and the proofs that they compute them, written by a program. No condition. -/
import Derived.Test.YtlajingmjmnfgaaGreatDoorGenB
set_option linter.all false
open Go.Proofs.Tryz Go.IntKind
namespace Go.Proofs.YtlajingmjmnfgaaGreatDoor
open Go.Sim
set_option maxRecDepth 100000
set_option maxHeartbeats 4000000
noncomputable def Qcd (s1_:(List Str)) (s2_:(List Str)):Option (Bool):=(if ((s1_.length:Int) !=(s2_.length:Int))=true then (some false) else (Qo (fun (s0:Int)=>((if (decide (s0<(s1_.length:Int)))=true then (idx s1_ s0).bind fun t0=>(idx s2_ s0).bind fun t1=>(if (t0 !=t1)=true then (some (.inr (.inr false))) else (some (.inl (i64.wrap (s0+1))))) else (some (.inr (.inl ())))):Option ((Int)⊕((Unit)⊕(Bool))))) (0:Int)).bind fun e0=>(match e0 with | .inl _=>(some true) | .inr p0=>(some p0)))
instance Qqh:Spc2 prog 70 Qcd (fun s1_ s2_=>[tsl rS s1_,tsl rS s2_]) tb:=.mk fun {s1_ s2_ r} h=>by
 unfold Qcd at h
 refine Fe func70 ntmps70 fun M0 M w0 hpl=>?_
 refine Qc [1,2] ?_
 refine tIfs h [4,5,6] (fun _ h=>?_) (fun _ h=>?_)
 ·refine Qc [0] ?_
  exact Qt h (·▸Qr hpl)
 refine Ql fun K0 k0=>?_
 refine Qc [1,2,4,5] ?_
 have⟨e0,h0,h⟩:=bs h
 have J0:∀(p0:Unit),(.inl p0)=e0→To M w0 26 [] [] K0:=by
  intro p0 he;subst he;simp only at h;refine k0 ?_;refine Qc [0] ?_;exact Qt h (·▸Qr hpl)
 have J1:∀(p1:Bool),(.inr p1)=e0→To M w0 26 [(4,tb p1)] [] (Ret prog f70 M0 [] w0 (fun _=>[]) (fun _=>tb r) .ret):=by
  intro p1 he;subst he;simp only at h;obtain rfl:=sj h;exact Qr hpl
 refine Qu ?_;refine QaY h0 (fun (s0:Int)=>[(12,ti (s1_.length:Int)),(13,ti s0),(0,tsl rS s1_),(1,tsl rS s2_)]) (fun (s0:Int)=>[]) [0,1,2,3] ?_;clear h;intro s0 o K1 h ho k1;refine Qc [0,1,2,3,4] ?_;refine Ql fun _ k2=>?_;refine Qz h (fun _ h=>?_) (fun _ h=>?_)
 ·refine QB ?_;refine k2 ?_;refine Ql fun _ k3=>?_;refine Qu ?_;refine Qc [1,3,4,5,6] ?_;have⟨_,_,_,_,h⟩:=bs2 h;refine Qc [8,10,11,12,13] ?_;refine Qz h (fun _ h=>?_) (fun _ h=>?_)
  ·refine Qc [0] ?_;refine Qa5 ?_;exact QO J1 (ho _ (sj h).symm) [0]
  refine QB ?_;refine k3 ?_;refine Q2 [1,3,4,5] ?_;exact QO k1 ((sj h).symm) [1,0,2,3]
 refine Q5 ?_;exact QO J0 (ho _ (sj h).symm) []
noncomputable def QcR (s1_:(List Int)) (s2_:(List Int)):Option (Bool):=(if ((s1_.length:Int) !=(s2_.length:Int))=true then (some false) else (Qo (fun (s0:Int)=>((if (decide (s0<(s1_.length:Int)))=true then (idx s1_ s0).bind fun t0=>(idx s2_ s0).bind fun t1=>(if (t0 !=t1)=true then (some (.inr (.inr false))) else (some (.inl (i64.wrap (s0+1))))) else (some (.inr (.inl ())))):Option ((Int)⊕((Unit)⊕(Bool))))) (0:Int)).bind fun e0=>(match e0 with | .inl _=>(some true) | .inr p0=>(some p0)))
instance QsH:Spc2 prog 114 QcR (fun s1_ s2_=>[tsl rI s1_,tsl rI s2_]) tb:=.mk fun {s1_ s2_ r} h=>by
 unfold QcR at h
 refine Fe func114 ntmps114 fun M0 M w0 hpl=>?_
 refine Qc [1,2] ?_
 refine tIfs h [4,5,6] (fun _ h=>?_) (fun _ h=>?_)
 ·refine Qc [0] ?_
  exact Qt h (·▸Qr hpl)
 refine Ql fun K0 k0=>?_
 refine Qc [1,2,4,5] ?_
 have⟨e0,h0,h⟩:=bs h
 have J0:∀(p0:Unit),(.inl p0)=e0→To M w0 26 [] [] K0:=by
  intro p0 he;subst he;simp only at h;refine k0 ?_;refine Qc [0] ?_;exact Qt h (·▸Qr hpl)
 have J1:∀(p1:Bool),(.inr p1)=e0→To M w0 26 [(4,tb p1)] [] (Ret prog f114 M0 [] w0 (fun _=>[]) (fun _=>tb r) .ret):=by
  intro p1 he;subst he;simp only at h;obtain rfl:=sj h;exact Qr hpl
 refine Qu ?_;refine QaY h0 (fun (s0:Int)=>[(12,ti (s1_.length:Int)),(13,ti s0),(0,tsl rI s1_),(1,tsl rI s2_)]) (fun (s0:Int)=>[]) [0,1,2,3] ?_;clear h;intro s0 o K1 h ho k1;refine Qc [0,1,2,3,4] ?_;refine Ql fun _ k2=>?_;refine Qz h (fun _ h=>?_) (fun _ h=>?_)
 ·refine QB ?_;refine k2 ?_;refine Ql fun _ k3=>?_;refine Qu ?_;refine Qc [1,3,4,5,6] ?_;have⟨_,_,_,_,h⟩:=bs2 h;refine Qc [8,10,11,12,13] ?_;refine Qz h (fun _ h=>?_) (fun _ h=>?_)
  ·refine Qc [0] ?_;refine Qa5 ?_;exact QO J1 (ho _ (sj h).symm) [0]
  refine QB ?_;refine k3 ?_;refine Q2 [1,3,4,5] ?_;exact QO k1 ((sj h).symm) [1,0,2,3]
 refine Q5 ?_;exact QO J0 (ho _ (sj h).symm) []
noncomputable def QcS (a_:Qb) (b_:Qb):Option (Bool):=(opt (((((((a_.Name==b_.Name)&&(a_.Of==b_.Of))&&(a_.Up==b_.Up))&&(a_.Kind==b_.Kind))&&(a_.Lo==b_.Lo))&&(a_.Hi==b_.Hi))==true) (Qcd a_.Words b_.Words) default).bind fun t0=>(opt ((((((((a_.Name==b_.Name)&&(a_.Of==b_.Of))&&(a_.Up==b_.Up))&&(a_.Kind==b_.Kind))&&(a_.Lo==b_.Lo))&&(a_.Hi==b_.Hi))&&t0)==true) (QcR a_.Weights b_.Weights) default).bind fun t1=>(some ((((((((a_.Name==b_.Name)&&(a_.Of==b_.Of))&&(a_.Up==b_.Up))&&(a_.Kind==b_.Kind))&&(a_.Lo==b_.Lo))&&(a_.Hi==b_.Hi))&&t0)&&t1))
instance QsI:Spc2 prog 67 QcS (fun a_ b_=>[Qd.ty a_,Qd.ty b_]) tb:=.mk fun {a_ b_ r} h=>by
 unfold QcS at h
 refine Fe func67 ntmps67 fun M0 M w0 hpl=>?_
 refine Qc [0,1] ?_
 have⟨_,_,_,_,h⟩:=bs2 h
 refine Qc [54] ?_
 exact Qt h (·▸Qr hpl)
noncomputable def Qes (x_:Str) (c0_:(Str→Option Bool)):Option (Bool):=(c0_ x_).bind fun t0=>(some (!t0))
instance Qqi:Spc2 prog 203 Qes (fun x_ c0_=>[tv (.string (sB x_)),tptr (Qi8.cs c0_)]) tb:=.mk fun {x_ c0_ r} h=>by
 unfold Qes at h
 refine Fe func203 ntmps203 fun M0 M w0 hpl=>?_
 refine Qc [1,2] ?_
 have⟨_,_,h⟩:=bs h
 refine Qc [4] ?_
 exact Qt h (·▸Qr hpl)
noncomputable def QbA (s_:(List Str)) (f_:(Str→Option Bool)):Option (Int):=(Qo (fun (s0:Int)=>((if (decide (s0<(s_.length:Int)))=true then (idx s_ s0).bind fun t0=>(f_ t0).bind fun t1=>(if t1=true then (some (.inr (.inr s0))) else (some (.inl (i64.wrap (s0+1))))) else (some (.inr (.inl ())))):Option ((Int)⊕((Unit)⊕(Int))))) (0:Int)).bind fun e0=>(match e0 with | .inl _=>(some (-1:Int)) | .inr p0=>(some p0))
instance QnZ:Spc2 prog 222 QbA (fun s_ f_=>[tsl rS s_,Qi8.ty f_]) ti:=.mk fun {s_ f_ r} h=>by
 unfold QbA at h
 refine Fe func222 ntmps222 fun M0 M w0 hpl=>?_
 refine Qc [1,2] ?_
 refine Ql fun K0 k0=>?_
 refine Qc [1,2,3,4] ?_
 have⟨e0,h0,h⟩:=bs h
 have J0:∀(p0:Unit),(.inl p0)=e0→To M w0 19 [] [] K0:=by
  intro p0 he;subst he;simp only at h;refine k0 ?_;refine Qc [0] ?_;exact Qt h (·▸Qr hpl)
 have J1:∀(p1:Int),(.inr p1)=e0→To M w0 19 [(4,ti p1)] [] (Ret prog f222 M0 [] w0 (fun _=>[]) (fun _=>ti r) .ret):=by
  intro p1 he;subst he;simp only at h;obtain rfl:=sj h;exact Qr hpl
 refine Qu ?_;refine QaY h0 (fun (s0:Int)=>[(7,ti (s_.length:Int)),(8,ti s0),(0,tsl rS s_),(1,Qi8.ty f_)]) (fun (s0:Int)=>[]) [0,1,2,3] ?_;clear h;intro s0 o K1 h ho k1;refine Qc [0,1,2,3,4] ?_;refine Ql fun _ k2=>?_;refine Qz h (fun _ h=>?_) (fun _ h=>?_)
 ·refine QB ?_;refine k2 ?_;refine Ql fun _ k3=>?_;refine Qu ?_;refine Qc [1,3,4,5,6] ?_;have⟨_,_,_,_,h⟩:=bs2 h;refine Qc [5,6,7,8,9,10] ?_;refine Qz h (fun _ h=>?_) (fun _ h=>?_)
  ·refine Qc [1] ?_;refine Qa5 ?_;exact QO J1 (ho _ (sj h).symm) [0]
  refine QB ?_;refine k3 ?_;refine Q2 [1,4,5,6] ?_;exact QO k1 ((sj h).symm) [1,0,2,3]
 refine Q5 ?_;exact QO J0 (ho _ (sj h).symm) []
noncomputable def Qa8 (s_:(List Str)) (f_:(Str→Option Bool)):Option (Bool):=(QbA s_ f_).bind fun t0=>(some (decide (t0≥0)))
instance QmF:Spc2 prog 202 Qa8 (fun s_ f_=>[tsl rS s_,Qi8.ty f_]) tb:=.mk fun {s_ f_ r} h=>by
 unfold Qa8 at h
 refine Fe func202 ntmps202 fun M0 M w0 hpl=>?_
 refine Qc [1,2] ?_
 have⟨_,_,h⟩:=bs h
 refine Qc [4] ?_
 exact Qt h (·▸Qr hpl)
noncomputable def Qb6 (l_:(List Str)) (right_:(Str→Option Bool)):Option (Bool):=(Qa8 l_ (fun x0=>Qes x0 right_)).bind fun t0=>(some (!t0))
instance Qr4:Spc2 prog 168 Qb6 (fun l_ right_=>[tsl rS l_,Qi8.ty right_]) tb:=.mk fun {l_ right_ r} h=>by
 unfold Qb6 at h
 refine Fe func168 ntmps168 fun M0 M w0 hpl=>?_
 refine Qc [0,2] ?_
 have⟨_,_,h⟩:=bs h
 refine Qc [4] ?_
 exact Qt h (·▸Qr hpl)
noncomputable def Qc6 (words_:(List Str)) (weights_:(List Int)):Option (Bool):=(Qo (fun (s0:Int×Int)=>((if (decide (s0.1<(weights_.length:Int)))=true then (idx weights_ s0.1).bind fun t0=>(Qa3 t0 (0:Int) (1048576:Int)).bind fun t1=>(if (!t1)=true then (some (.inr (.inr false))) else (some (.inl ((i64.wrap (s0.1+1)),(i64.wrap (s0.2+t0)))))) else (some (.inr (.inl s0.2)))):Option ((Int×Int)⊕((Int)⊕(Bool))))) ((0:Int),(0:Int))).bind fun e0=>(match e0 with | .inl p0=>(Qa3 (words_.length:Int) (1:Int) (12:Int)).bind fun t2=>(opt (((t2&&((words_.length:Int)==(weights_.length:Int)))&&(decide (p0>0)))==true) (Qb6 words_ (fun x0=>Q9 x0)) default).bind fun t3=>(some (((t2&&((words_.length:Int)==(weights_.length:Int)))&&(decide (p0>0)))&&t3)) | .inr p1=>(some p1))
instance Qv3:Spc2 prog 201 Qc6 (fun words_ weights_=>[tsl rS words_,tsl rI weights_]) tb:=.mk fun {words_ weights_ r} h=>by
 unfold Qc6 at h
 refine Fe func201 ntmps201 fun M0 M w0 hpl=>?_
 refine Qc [1,2] ?_
 refine Qc [0,1,2] ?_
 refine Ql fun K0 k0=>?_
 refine Qc [0,1,2,3,4,5] ?_
 have⟨e0,h0,h⟩:=bs h
 have J0:∀(p0:Int),(.inl p0)=e0→To M w0 39 [(5,ti p0),(0,tsl rS words_),(1,tsl rI weights_)] [] K0:=by
  intro p0 he;subst he;simp only at h;refine k0 ?_;have⟨_,_,_,_,h⟩:=bs2 h;refine Qc [18] ?_;exact Qt h (·▸Qr hpl)
 have J1:∀(p1:Bool),(.inr p1)=e0→To M w0 39 [(4,tb p1)] [] (Ret prog f201 M0 [] w0 (fun _=>[]) (fun _=>tb r) .ret):=by
  intro p1 he;subst he;simp only at h;obtain rfl:=sj h;exact Qr hpl
 refine Qu ?_;refine QaY h0 (fun (s0:Int×Int)=>[(8,tsl rI weights_),(9,ti (weights_.length:Int)),(10,ti s0.1),(5,ti s0.2),(0,tsl rS words_),(1,tsl rI weights_)]) (fun (s0:Int×Int)=>[]) [0,1,2,3,4,5] ?_;clear h;intro s0 o K1 h ho k1;refine Qc [0,1,2,3,4,5,6] ?_;refine Ql fun _ k2=>?_;refine Qz h (fun _ h=>?_) (fun _ h=>?_)
 ·refine QB ?_;refine k2 ?_;refine Ql fun _ k3=>?_;refine Qu ?_;have⟨_,_,h⟩:=bs h;refine Qc [2,4,5,6,7,8,9] ?_;have⟨_,_,h⟩:=bs h;refine tIfs h [2,3,4,5,6,7,8,9] (fun _ h=>?_) (fun _ h=>?_)
  ·refine Qc [0] ?_;refine Qa5 ?_;exact QO J1 (ho _ (sj h).symm) [0]
  refine Q2 [3,6,7,8,9,10] ?_;refine k3 ?_;refine Q2 [1,2,3,4,5,6] ?_;exact QO k1 ((sj h).symm) [2,3,0,1,4,5]
 refine Q5 ?_;exact QO J0 (ho _ (sj h).symm) [4,5,6]
noncomputable def QdE (f_:Qb):Option (Bool):=(Q9 f_.Name).bind fun t0=>(opt ((!t0)==false) (Qfc f_) default).bind fun t1=>(opt ((!t0)==false) (QcS f_ t1) default).bind fun t2=>(if ((!t0)||(!t2))=true then (some false) else (if (f_.Kind==0)=true then (Qa3 f_.Lo (-1048576:Int) (1048576:Int)).bind fun t3=>(some t3) else (if (f_.Kind==1)=true then (Q9 f_.Of).bind fun t4=>(opt (t4==true) (QcC f_.Lo f_.Hi (0:Int) (65536:Int)) default).bind fun t5=>(some (t4&&t5)) else (if (f_.Kind==2)=true then (QcC f_.Lo f_.Hi (-1048576:Int) (1048576:Int)).bind fun t6=>(some t6) else (if (f_.Kind==3)=true then (Qc6 f_.Words f_.Weights).bind fun t7=>(some t7) else (if (f_.Kind==4)=true then (opt ((f_.Of==([]:Str))==false) (Q9 f_.Of) default).bind fun t8=>(opt (((f_.Of==([]:Str))||t8)==true) (QcC f_.Lo f_.Hi (-1048576:Int) (1048576:Int)) default).bind fun t9=>(some (((f_.Of==([]:Str))||t8)&&t9)) else (if (f_.Kind==5)=true then (Q9 f_.Of).bind fun t10=>(opt (t10==true) (QcC f_.Lo f_.Hi (0:Int) (32:Int)) default).bind fun t11=>(some (t10&&t11)) else (if (f_.Kind==6)=true then (Q9 f_.Of).bind fun t12=>(some t12) else (if (f_.Kind==7)=true then (Q9 f_.Of).bind fun t13=>(opt (t13==true) (Q9 f_.Up) default).bind fun t14=>(opt ((t13&&t14)==true) (QcC f_.Lo f_.Hi (0:Int) (1048576:Int)) default).bind fun t15=>(some ((t13&&t14)&&t15)) else (if (f_.Kind==8)=true then (Q9 f_.Of).bind fun t16=>(opt (t16==true) (Q9 f_.Up) default).bind fun t17=>(some (t16&&t17)) else (some false)))))))))))
instance Qu9:Spc1 prog 166 QdE (fun f_=>[Qd.ty f_]) tb:=.mk fun {f_ r} h=>by
 unfold QdE at h
 refine Fe func166 ntmps166 fun M0 M w0 hpl=>?_
 refine Qc [0] ?_
 have⟨_,_,_,_,_,_,h⟩:=bs3 h
 refine tIfs h [10,11] (fun _ h=>?_) (fun _ h=>?_)
 ·refine Qc [0] ?_
  exact Qt h (·▸Qr hpl)
 refine Ql fun _ k0=>?_
 refine Qc [1,3] ?_
 refine Qu ?_
 refine Qc [1,2,3] ?_
 refine Qz h (fun _ h=>?_) (fun _ h=>?_)
 ·have⟨_,_,h⟩:=bs h
  refine Qc [3] ?_
  exact Qt h (·▸Qr hpl)
 refine Qc [1,3,4] ?_
 refine Qz h (fun _ h=>?_) (fun _ h=>?_)
 ·have⟨_,_,_,_,h⟩:=bs2 h
  refine Qc [10] ?_
  exact Qt h (·▸Qr hpl)
 refine Qc [1,3,4] ?_
 refine Qz h (fun _ h=>?_) (fun _ h=>?_)
 ·have⟨_,_,h⟩:=bs h
  refine Qc [5] ?_
  exact Qt h (·▸Qr hpl)
 refine Qc [1,3,4] ?_
 refine Qz h (fun _ h=>?_) (fun _ h=>?_)
 ·have⟨_,_,h⟩:=bs h
  refine Qc [5] ?_
  exact Qt h (·▸Qr hpl)
 refine Qc [1,3,4] ?_
 refine Qz h (fun _ h=>?_) (fun _ h=>?_)
 ·have⟨_,_,_,_,h⟩:=bs2 h
  refine Qc [15] ?_
  exact Qt h (·▸Qr hpl)
 refine Qc [1,3,4] ?_
 refine Qz h (fun _ h=>?_) (fun _ h=>?_)
 ·have⟨_,_,_,_,h⟩:=bs2 h
  refine Qc [10] ?_
  exact Qt h (·▸Qr hpl)
 refine Qc [1,3,4] ?_
 refine Qz h (fun _ h=>?_) (fun _ h=>?_)
 ·have⟨_,_,h⟩:=bs h
  refine Qc [3] ?_
  exact Qt h (·▸Qr hpl)
 refine Qc [1,3,4] ?_
 refine Qz h (fun _ h=>?_) (fun _ h=>?_)
 ·have⟨_,_,_,_,_,_,h⟩:=bs3 h
  refine Qc [15] ?_
  exact Qt h (·▸Qr hpl)
 refine Qc [1,4] ?_
 refine Qz h (fun _ h=>?_) (fun _ h=>?_)
 ·have⟨_,_,_,_,h⟩:=bs2 h
  refine Qc [8] ?_
  exact Qt h (·▸Qr hpl)
 refine QB ?_
 refine k0 ?_
 refine Qc [0] ?_
 exact Qt h (·▸Qr hpl)
noncomputable def Qd7 (k_:Qe):Option (Bool):=(Q9 k_.Name).bind fun t0=>(opt (t0==true) (QcC k_.Lo k_.Hi (0:Int) (65536:Int)) default).bind fun t1=>(opt (((t0&&t1)&&(decide ((k_.Fields.length:Int)≤10)))==true) (QcQ k_.Fields (fun x0=>QdE x0)) default).bind fun t2=>(some (((t0&&t1)&&(decide ((k_.Fields.length:Int)≤10)))&&t2))
instance Qv4:Spc1 prog 121 Qd7 (fun k_=>[Qh.ty k_]) tb:=.mk fun {k_ r} h=>by
 unfold Qd7 at h
 refine Fe func121 ntmps121 fun M0 M w0 hpl=>?_
 refine Qc [0] ?_
 have⟨_,_,_,_,_,_,h⟩:=bs3 h
 refine Qc [21] ?_
 exact Qt h (·▸Qr hpl)
noncomputable def Qfd (x_:Qw) (c0_:(Qw→Option Bool)):Option (Bool):=(c0_ x_).bind fun t0=>(some (!t0))
instance Qr5:Spc2 prog 167 Qfd (fun x_ c0_=>[Qy.ty x_,tptr (Qi5.cs c0_)]) tb:=.mk fun {x_ c0_ r} h=>by
 unfold Qfd at h
 refine Fe func167 ntmps167 fun M0 M w0 hpl=>?_
 refine Qc [0,3] ?_
 have⟨_,_,h⟩:=bs h
 refine Qc [4] ?_
 exact Qt h (·▸Qr hpl)
noncomputable def QbX (s_:(List Qw)) (f_:(Qw→Option Bool)):Option (Int):=(Qo (fun (s0:Int)=>((if (decide (s0<(s_.length:Int)))=true then (idx s_ s0).bind fun t0=>(f_ t0).bind fun t1=>(if t1=true then (some (.inr (.inr s0))) else (some (.inl (i64.wrap (s0+1))))) else (some (.inr (.inl ())))):Option ((Int)⊕((Unit)⊕(Int))))) (0:Int)).bind fun e0=>(match e0 with | .inl _=>(some (-1:Int)) | .inr p0=>(some p0))
instance Qo6:Spc2 prog 127 QbX (fun s_ f_=>[tsl Qy s_,Qi5.ty f_]) ti:=.mk fun {s_ f_ r} h=>by
 unfold QbX at h
 refine Fe func127 ntmps127 fun M0 M w0 hpl=>?_
 refine Qc [1,2] ?_
 refine Ql fun K0 k0=>?_
 refine Qc [1,2,3,4] ?_
 have⟨e0,h0,h⟩:=bs h
 have J0:∀(p0:Unit),(.inl p0)=e0→To M w0 19 [] [] K0:=by
  intro p0 he;subst he;simp only at h;refine k0 ?_;refine Qc [0] ?_;exact Qt h (·▸Qr hpl)
 have J1:∀(p1:Int),(.inr p1)=e0→To M w0 19 [(4,ti p1)] [] (Ret prog f127 M0 [] w0 (fun _=>[]) (fun _=>ti r) .ret):=by
  intro p1 he;subst he;simp only at h;obtain rfl:=sj h;exact Qr hpl
 refine Qu ?_;refine QaY h0 (fun (s0:Int)=>[(7,ti (s_.length:Int)),(8,ti s0),(0,tsl Qy s_),(1,Qi5.ty f_)]) (fun (s0:Int)=>[]) [0,1,2,3] ?_;clear h;intro s0 o K1 h ho k1;refine Qc [0,1,2,3,4] ?_;refine Ql fun _ k2=>?_;refine Qz h (fun _ h=>?_) (fun _ h=>?_)
 ·refine QB ?_;refine k2 ?_;refine Ql fun _ k3=>?_;refine Qu ?_;refine Qc [1,3,4,5,6] ?_;have⟨_,_,_,_,h⟩:=bs2 h;refine Qc [5,6,7,8,9,10] ?_;refine Qz h (fun _ h=>?_) (fun _ h=>?_)
  ·refine Qc [1] ?_;refine Qa5 ?_;exact QO J1 (ho _ (sj h).symm) [0]
  refine QB ?_;refine k3 ?_;refine Q2 [1,4,5,6] ?_;exact QO k1 ((sj h).symm) [1,0,2,3]
 refine Q5 ?_;exact QO J0 (ho _ (sj h).symm) []
noncomputable def QaA (s_:(List Qw)) (f_:(Qw→Option Bool)):Option (Bool):=(QbX s_ f_).bind fun t0=>(some (decide (t0≥0)))
instance Qnv:Spc2 prog 79 QaA (fun s_ f_=>[tsl Qy s_,Qi5.ty f_]) tb:=.mk fun {s_ f_ r} h=>by
 unfold QaA at h
 refine Fe func79 ntmps79 fun M0 M w0 hpl=>?_
 refine Qc [1,2] ?_
 have⟨_,_,h⟩:=bs h
 refine Qc [4] ?_
 exact Qt h (·▸Qr hpl)
noncomputable def Qde (l_:(List Qw)) (right_:(Qw→Option Bool)):Option (Bool):=(QaA l_ (fun x0=>Qfd x0 right_)).bind fun t0=>(some (!t0))
instance QtW:Spc2 prog 122 Qde (fun l_ right_=>[tsl Qy l_,Qi5.ty right_]) tb:=.mk fun {l_ right_ r} h=>by
 unfold Qde at h
 refine Fe func122 ntmps122 fun M0 M w0 hpl=>?_
 refine Qc [0,2] ?_
 have⟨_,_,h⟩:=bs h
 refine Qc [4] ?_
 exact Qt h (·▸Qr hpl)
noncomputable def Qdf (m_:QE) (c0_:Int):Option (Bool):=(Qa3 m_.a0 (0:Int) (i64.wrap (c0_ - 1))).bind fun t0=>(opt (t0==true) (Qa3 m_.a1 (0:Int) (i64.wrap (c0_ - 1))) default).bind fun t1=>(some (t0&&t1))
instance QtX:Spc2 prog 170 Qdf (fun m_ c0_=>[Qaa.ty m_,tptr (rI.cs c0_)]) tb:=.mk fun {m_ c0_ r} h=>by
 unfold Qdf at h
 refine Fe func170 ntmps170 fun M0 M w0 hpl=>?_
 refine Qc [0,3] ?_
 have⟨_,_,_,_,h⟩:=bs2 h
 refine Qc [12] ?_
 exact Qt h (·▸Qr hpl)
noncomputable def Qet (x_:QE) (c0_:(QE→Option Bool)):Option (Bool):=(c0_ x_).bind fun t0=>(some (!t0))
instance Qqj:Spc2 prog 205 Qet (fun x_ c0_=>[Qaa.ty x_,tptr (Qi9.cs c0_)]) tb:=.mk fun {x_ c0_ r} h=>by
 unfold Qet at h
 refine Fe func205 ntmps205 fun M0 M w0 hpl=>?_
 refine Qc [0,3] ?_
 have⟨_,_,h⟩:=bs h
 refine Qc [4] ?_
 exact Qt h (·▸Qr hpl)
noncomputable def QbB (s_:(List QE)) (f_:(QE→Option Bool)):Option (Int):=(Qo (fun (s0:Int)=>((if (decide (s0<(s_.length:Int)))=true then (idx s_ s0).bind fun t0=>(f_ t0).bind fun t1=>(if t1=true then (some (.inr (.inr s0))) else (some (.inl (i64.wrap (s0+1))))) else (some (.inr (.inl ())))):Option ((Int)⊕((Unit)⊕(Int))))) (0:Int)).bind fun e0=>(match e0 with | .inl _=>(some (-1:Int)) | .inr p0=>(some p0))
instance Qn0:Spc2 prog 223 QbB (fun s_ f_=>[tsl Qaa s_,Qi9.ty f_]) ti:=.mk fun {s_ f_ r} h=>by
 unfold QbB at h
 refine Fe func223 ntmps223 fun M0 M w0 hpl=>?_
 refine Qc [1,2] ?_
 refine Ql fun K0 k0=>?_
 refine Qc [1,2,3,4] ?_
 have⟨e0,h0,h⟩:=bs h
 have J0:∀(p0:Unit),(.inl p0)=e0→To M w0 19 [] [] K0:=by
  intro p0 he;subst he;simp only at h;refine k0 ?_;refine Qc [0] ?_;exact Qt h (·▸Qr hpl)
 have J1:∀(p1:Int),(.inr p1)=e0→To M w0 19 [(4,ti p1)] [] (Ret prog f223 M0 [] w0 (fun _=>[]) (fun _=>ti r) .ret):=by
  intro p1 he;subst he;simp only at h;obtain rfl:=sj h;exact Qr hpl
 refine Qu ?_;refine QaY h0 (fun (s0:Int)=>[(7,ti (s_.length:Int)),(8,ti s0),(0,tsl Qaa s_),(1,Qi9.ty f_)]) (fun (s0:Int)=>[]) [0,1,2,3] ?_;clear h;intro s0 o K1 h ho k1;refine Qc [0,1,2,3,4] ?_;refine Ql fun _ k2=>?_;refine Qz h (fun _ h=>?_) (fun _ h=>?_)
 ·refine QB ?_;refine k2 ?_;refine Ql fun _ k3=>?_;refine Qu ?_;refine Qc [1,3,4,5,6] ?_;have⟨_,_,_,_,h⟩:=bs2 h;refine Qc [5,6,7,8,9,10] ?_;refine Qz h (fun _ h=>?_) (fun _ h=>?_)
  ·refine Qc [1] ?_;refine Qa5 ?_;exact QO J1 (ho _ (sj h).symm) [0]
  refine QB ?_;refine k3 ?_;refine Q2 [1,4,5,6] ?_;exact QO k1 ((sj h).symm) [1,0,2,3]
 refine Q5 ?_;exact QO J0 (ho _ (sj h).symm) []
noncomputable def Qa9 (s_:(List QE)) (f_:(QE→Option Bool)):Option (Bool):=(QbB s_ f_).bind fun t0=>(some (decide (t0≥0)))
instance QmG:Spc2 prog 204 Qa9 (fun s_ f_=>[tsl Qaa s_,Qi9.ty f_]) tb:=.mk fun {s_ f_ r} h=>by
 unfold Qa9 at h
 refine Fe func204 ntmps204 fun M0 M w0 hpl=>?_
 refine Qc [1,2] ?_
 have⟨_,_,h⟩:=bs h
 refine Qc [4] ?_
 exact Qt h (·▸Qr hpl)
noncomputable def QcD (l_:(List QE)) (right_:(QE→Option Bool)):Option (Bool):=(Qa9 l_ (fun x0=>Qet x0 right_)).bind fun t0=>(some (!t0))
instance Qr6:Spc2 prog 169 QcD (fun l_ right_=>[tsl Qaa l_,Qi9.ty right_]) tb:=.mk fun {l_ right_ r} h=>by
 unfold QcD at h
 refine Fe func169 ntmps169 fun M0 M w0 hpl=>?_
 refine Qc [0,2] ?_
 have⟨_,_,h⟩:=bs h
 refine Qc [4] ?_
 exact Qt h (·▸Qr hpl)
noncomputable def Qd8 (x_:Qw):Option (Bool):=(Q9 x_.Name).bind fun t0=>(opt (t0==true) (Qa3 (x_.States.length:Int) (1:Int) (12:Int)) default).bind fun t1=>(opt ((t0&&t1)==true) (Qb6 x_.States (fun x0=>Q9 x0)) default).bind fun t2=>(opt ((((t0&&t1)&&t2)&&(decide ((x_.Moves.length:Int)≤32)))==true) (QcD x_.Moves (fun x0=>Qdf x0 (x_.States.length:Int))) default).bind fun t3=>(some ((((t0&&t1)&&t2)&&(decide ((x_.Moves.length:Int)≤32)))&&t3))
instance Qv5:Spc1 prog 123 Qd8 (fun x_=>[Qy.ty x_]) tb:=.mk fun {x_ r} h=>by
 unfold Qd8 at h
 refine Fe func123 ntmps123 fun M0 M w0 hpl=>?_
 refine Qc [0] ?_
 refine QJ [v1 3 (fun v0=>box (rI.cs (0:Int)) v0),v1 3 (fun v0=>box (rI.cs (x_.States.length:Int)) v0)] [4,5] [3,4] fun m0=>?_
 refine Q0 (fun _ _ H=>((H.shareB 0 rfl).add 0 rfl (fun _ _ _ h=>h.2)).pick [0,3]) ?_
 have⟨_,_,_,_,_,_,_,_,h⟩:=bs4 h
 refine Qc [24] ?_
 exact Qt h (·▸Qr hpl)
noncomputable def Qfe (x_:Qj) (c0_:(Qj→Option Bool)):Option (Bool):=(c0_ x_).bind fun t0=>(some (!t0))
instance Qr7:Spc2 prog 171 Qfe (fun x_ c0_=>[Qs.ty x_,tptr (Qi4.cs c0_)]) tb:=.mk fun {x_ c0_ r} h=>by
 unfold Qfe at h
 refine Fe func171 ntmps171 fun M0 M w0 hpl=>?_
 refine Qc [0,3] ?_
 have⟨_,_,h⟩:=bs h
 refine Qc [4] ?_
 exact Qt h (·▸Qr hpl)
noncomputable def QbY (s_:(List Qj)) (f_:(Qj→Option Bool)):Option (Int):=(Qo (fun (s0:Int)=>((if (decide (s0<(s_.length:Int)))=true then (idx s_ s0).bind fun t0=>(f_ t0).bind fun t1=>(if t1=true then (some (.inr (.inr s0))) else (some (.inl (i64.wrap (s0+1))))) else (some (.inr (.inl ())))):Option ((Int)⊕((Unit)⊕(Int))))) (0:Int)).bind fun e0=>(match e0 with | .inl _=>(some (-1:Int)) | .inr p0=>(some p0))
instance Qo7:Spc2 prog 113 QbY (fun s_ f_=>[tsl Qs s_,Qi4.ty f_]) ti:=.mk fun {s_ f_ r} h=>by
 unfold QbY at h
 refine Fe func113 ntmps113 fun M0 M w0 hpl=>?_
 refine Qc [1,2] ?_
 refine Ql fun K0 k0=>?_
 refine Qc [1,2,3,4] ?_
 have⟨e0,h0,h⟩:=bs h
 have J0:∀(p0:Unit),(.inl p0)=e0→To M w0 19 [] [] K0:=by
  intro p0 he;subst he;simp only at h;refine k0 ?_;refine Qc [0] ?_;exact Qt h (·▸Qr hpl)
 have J1:∀(p1:Int),(.inr p1)=e0→To M w0 19 [(4,ti p1)] [] (Ret prog f113 M0 [] w0 (fun _=>[]) (fun _=>ti r) .ret):=by
  intro p1 he;subst he;simp only at h;obtain rfl:=sj h;exact Qr hpl
 refine Qu ?_;refine QaY h0 (fun (s0:Int)=>[(7,ti (s_.length:Int)),(8,ti s0),(0,tsl Qs s_),(1,Qi4.ty f_)]) (fun (s0:Int)=>[]) [0,1,2,3] ?_;clear h;intro s0 o K1 h ho k1;refine Qc [0,1,2,3,4] ?_;refine Ql fun _ k2=>?_;refine Qz h (fun _ h=>?_) (fun _ h=>?_)
 ·refine QB ?_;refine k2 ?_;refine Ql fun _ k3=>?_;refine Qu ?_;refine Qc [1,3,4,5,6] ?_;have⟨_,_,_,_,h⟩:=bs2 h;refine Qc [5,6,7,8,9,10] ?_;refine Qz h (fun _ h=>?_) (fun _ h=>?_)
  ·refine Qc [1] ?_;refine Qa5 ?_;exact QO J1 (ho _ (sj h).symm) [0]
  refine QB ?_;refine k3 ?_;refine Q2 [1,4,5,6] ?_;exact QO k1 ((sj h).symm) [1,0,2,3]
 refine Q5 ?_;exact QO J0 (ho _ (sj h).symm) []
noncomputable def QaT (s_:(List Qj)) (f_:(Qj→Option Bool)):Option (Bool):=(QbY s_ f_).bind fun t0=>(some (decide (t0≥0)))
instance Qnw:Spc2 prog 130 QaT (fun s_ f_=>[tsl Qs s_,Qi4.ty f_]) tb:=.mk fun {s_ f_ r} h=>by
 unfold QaT at h
 refine Fe func130 ntmps130 fun M0 M w0 hpl=>?_
 refine Qc [1,2] ?_
 have⟨_,_,h⟩:=bs h
 refine Qc [4] ?_
 exact Qt h (·▸Qr hpl)
noncomputable def Qdg (l_:(List Qj)) (right_:(Qj→Option Bool)):Option (Bool):=(QaT l_ (fun x0=>Qfe x0 right_)).bind fun t0=>(some (!t0))
instance QtY:Spc2 prog 124 Qdg (fun l_ right_=>[tsl Qs l_,Qi4.ty right_]) tb:=.mk fun {l_ right_ r} h=>by
 unfold Qdg at h
 refine Fe func124 ntmps124 fun M0 M w0 hpl=>?_
 refine Qc [0,2] ?_
 have⟨_,_,h⟩:=bs h
 refine Qc [4] ?_
 exact Qt h (·▸Qr hpl)
noncomputable def Qd9 (r_:Qj):Option (Bool):=(Q9 r_.Name).bind fun t0=>(opt (t0==true) (Q9 r_.Kind) default).bind fun t1=>(opt (((t0&&t1)==true)&&((r_.A==([]:Str))==false)) (Q9 r_.A) default).bind fun t2=>(opt ((((t0&&t1)&&((r_.A==([]:Str))||t2))==true)&&((r_.B==([]:Str))==false)) (Q9 r_.B) default).bind fun t3=>(opt ((((t0&&t1)&&((r_.A==([]:Str))||t2))&&((r_.B==([]:Str))||t3))==true) (cat (r_.A.length+r_.B.length)) default).bind fun _=>(opt (((((t0&&t1)&&((r_.A==([]:Str))||t2))&&((r_.B==([]:Str))||t3))&&((r_.A++r_.B) !=([]:Str)))==true) (Qa3 r_.N (-1048576:Int) (1048576:Int)) default).bind fun t4=>(some (((((t0&&t1)&&((r_.A==([]:Str))||t2))&&((r_.B==([]:Str))||t3))&&((r_.A++r_.B) !=([]:Str)))&&t4))
instance Qv6:Spc1 prog 125 Qd9 (fun r_=>[Qs.ty r_]) tb:=.mk fun {r_ r} h=>by
 unfold Qd9 at h
 refine Fe func125 ntmps125 fun M0 M w0 hpl=>?_
 refine Qc [0] ?_
 have⟨_,_,_,_,_,_,_,_,h⟩:=bs4 h
 have⟨_,_,_,_,h⟩:=bs2 h
 refine Qc [41] ?_
 exact Qt h (·▸Qr hpl)
noncomputable def Qas (word_:Str) (l_:(List AnyV)):Option (Str):=(QaM ([]:Str) word_).bind fun t0=>(Qo (fun (s0:Int×Str)=>((if (decide (s0.1<(l_.length:Int)))=true then (idx l_ s0.1).bind fun t1=>(QgH s0.2 (32:Int)).bind fun t2=>((if t1.asInt.2=true then (Ql4 t1.asInt.1).bind fun t3=>(QaM t2 t3).bind fun t4=>(some t4) else ((if t1.asStr.2=true then (QaM t2 t1.asStr.1).bind fun t5=>(some t5) else (some t2))).bind fun p0=>(some p0))).bind fun p1=>(some (.inl ((i64.wrap (s0.1+1)),p1))) else (some (.inr s0.2))):Option ((Int×Str)⊕((Str))))) ((0:Int),t0)).bind fun p2=>(QfV p2).bind fun t6=>(cat (t6.length+([10]:Str).length)).bind fun _=>(some (t6++([10]:Str)))
instance Qc7:SpcS prog 173 (∀{word_:Str} {l_:(List AnyV)} {r:Str},Qas word_ l_=some r→FnOk prog 173 [tv (.string (sB word_)),tsl (rAny 3 9) l_] [glo] (fun _=>[]) (fun _=>tv (.string (sB r)))):=.mk fun {word_ l_ r} h=>by
 unfold Qas at h
 refine Fe func173 ntmps173 fun M0 M w0 hpl=>?_
 refine Qc [1,2] ?_
 intro a w H
 refine sr mx [v1 0 (fun v0=>bld ([]:Str) v0 nilV)] H (fun _=>.m [] [1] rfl rfl rfl (Qnp bInfo)<|.n) fun m0 a w H=>?_
 have H:=H.to [0,1,2] [_,_,_] [_,_] rfl rfl
 refine QS H ?_
 have⟨t0,h0,h⟩:=bs h
 intro a w H
 refine sr mx [v1 1 (fun v0=>bld t0 (m0 0) v0)] H (fun _=>.q 1 rfl<|.e [] [1] [2] rfl rfl rfl rfl (QC Qfr (Qbp h0) (.cons (.of z1)<|.cons (.of z0)<|.nil))<|.n) fun m1 a w H=>?_
 have H:=H.to [2,4] [_,_] [_,_] rfl rfl
 refine QS H ?_
 refine Ql fun K0 k0=>?_
 refine Qc [0,1,2,3] ?_
 have⟨e0,h1,h⟩:=bs h
 have J0:∀(p0:Str) (y0:Value),p0=e0→To M w0 34 [(5,tv (m0 0))] [glo,bld p0 (m0 0) y0] K0:=by
  intro p0 y0 he;subst he;refine k0 ?_;have⟨t1,h2,_,h3,h⟩:=bs2 h;intro a w H;refine sr mx [] H (fun _=>.e [] [1] [] rfl rfl rfl rfl (QC Qq3 (Ql5 h2) (.cons (.of z0)<|.nil))<|.o (Qgp z0 .k h3)<|.o (Qn z0)<|.n) fun _ a w H=>?_;have H:=H.to [2] [_] [_] rfl rfl;refine QS H ?_;exact Qt h (·▸Qr hpl)
 refine Qu ?_;refine Qa7 h1 (fun (s0:Int×Str) (y1:Value)=>[(12,tsl (rAny 3 9) l_),(13,ti (l_.length:Int)),(14,ti s0.1),(5,tv (m0 0))]) (fun (s0:Int×Str) (y1:Value)=>[glo,bld s0.2 (m0 0) y1]) (m1 1) [0,1,2,3] ?_;clear h;intro s0 y1 o K1 h ho k1;refine Qc [0,1,2,3,4] ?_;refine Ql fun _ k2=>?_;refine Qz h (fun _ h=>?_) (fun _ h=>?_)
 ·refine QB ?_;refine k2 ?_;refine Ql fun K2 k3=>?_;refine Qu ?_;have⟨t2,_,h⟩:=bs h;refine Qc [2,4,5,6,7] ?_;have⟨t3,h4,h⟩:=bs h;intro a w H;refine sr mx [v1 0 (fun v0=>bld t3 (m0 0) v0)] H (fun _=>.e [] [1] [2] rfl rfl rfl rfl (QC Qyv (QnY h4) (.cons (.of z4)<|.cons (.of .k)<|.nil))<|.n) fun m2 a w H=>?_;have H:=H.to [1,2,3,4,5] [_,_,_,_,_] [_,_] rfl rfl;refine QS H ?_;refine Qc [0,2,3,4,5] ?_;refine Qu ?_;intro a w H;refine sr mx [] H (fun _=>.o (op_asI (by decide) tok3 ud3 z0)<|.o (Q8 z0 rfl)<|.o (Q8 z1 rfl)<|.n) fun _ a w H=>?_;have H:=H.to [1,2,3,4,5,6,7] [_,_,_,_,_,_,_] [_,_] rfl rfl;refine QS H ?_;have⟨p1,h5,h⟩:=bs h;have J1:∀(y2:Value),To M w0 34 [(12,tsl (rAny 3 9) l_),(13,ti (l_.length:Int)),(14,ti s0.1),(5,tv (m0 0))] [glo,bld p1 (m0 0) y2] K2:=by
   intro y2;refine k3 ?_;refine Q2 [1,2,3,4] ?_;exact Q6 k1 y2 ((sj h).symm) [1,2,0,3]
  replace h:=h5;clear h5;refine Qz h (fun _ h=>?_) (fun _ h=>?_)
  ·refine Qc [0,4,5,6,7] ?_;have⟨_,h6,t4,h7,h⟩:=bs2 h;intro a w H;refine wr mx [v1 2 (fun v0=>bld t4 (m0 0) v0)] H (fun _=>.q 0 rfl<|.u [0] rfl rfl ((QC Qyw (Qyx h6) (.cons (.of z0)<|.nil)).glo)<|.e [] [1] [2] rfl rfl rfl rfl (QC Qfr (Qbp h7) (.cons (.of z6)<|.cons (.of z0)<|.nil))<|.n) fun m3 a w H=>?_;have H:=H.to [4,5,6,7] [_,_,_,_] [_,_] rfl rfl;refine QbZ H ?_;obtain rfl:=sj h;exact QW (J1 (m3 2)) [0,1,2,3]
  intro a w H;refine sr mx [] H (fun _=>.o (op_asS (by decide) tok9 ud9 z2)<|.o (Q8 z0 rfl)<|.o (Q8 z1 rfl)<|.n) fun _ a w H=>?_;have H:=H.to [1,2,6,7,8,9] [_,_,_,_,_,_] [_,_] rfl rfl;refine QS H ?_;have⟨p2,h8,h⟩:=bs h;have J2:∀(y3:Value),To M w0 34 [(12,tsl (rAny 3 9) l_),(13,ti (l_.length:Int)),(14,ti s0.1),(5,tv (m0 0))] [glo,bld p2 (m0 0) y3] K2:=by
   intro y3;obtain rfl:=sj h;exact QW (J1 y3) [0,1,2,3]
  replace h:=h8;clear h8;refine Qz h (fun _ h=>?_) (fun _ h=>?_)
  ·refine Qc [0,3,4,5,6] ?_;have⟨t5,h9,h⟩:=bs h;intro a w H;refine wr mx [v1 1 (fun v0=>bld t5 (m0 0) v0)] H (fun _=>.q 0 rfl<|.e [] [1] [2] rfl rfl rfl rfl (QC Qfr (Qbp h9) (.cons (.of z5)<|.cons (.of z0)<|.nil))<|.n) fun m4 a w H=>?_;have H:=H.to [3,4,5,6] [_,_,_,_] [_,_] rfl rfl;refine QbZ H ?_;obtain rfl:=sj h;exact QW (J2 (m4 1)) [0,1,2,3]
  refine QB ?_;obtain rfl:=sj h;exact QW (J2 (m2 0)) [2,3,4,5]
 refine Q5 ?_;exact Q6 J0 y1 (ho _ (sj h).symm) [4]
end Go.Proofs.YtlajingmjmnfgaaGreatDoor
