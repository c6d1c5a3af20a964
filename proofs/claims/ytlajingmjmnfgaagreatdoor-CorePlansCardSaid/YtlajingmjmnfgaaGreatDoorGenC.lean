/- Go functions as Lean functions, and the proofs that they compute them, written by a program. No condition. -/
import Derived.Test.YtlajingmjmnfgaaGreatDoorGenB
set_option linter.all false
open Go.Proofs.Tryz Go.IntKind
namespace Go.Proofs.YtlajingmjmnfgaaGreatDoor
noncomputable section
open Go.Sim
set_option maxRecDepth 100000
set_option maxHeartbeats 4000000
def Qdp (s1_:(List Int)) (s2_:(List Int)):Option (Bool):=(if ((s1_.length:Int) !=(s2_.length:Int))=true then (some false) else (Ql (fun (s0:Int)=>((if (decide (s0<(s1_.length:Int)))=true then (idx s1_ s0).bind fun t0=>(idx s2_ s0).bind fun t1=>(if (t0 !=t1)=true then (some (.inr (.inr false))) else (some (.inl (i64.wrap (s0+1))))) else (some (.inr (.inl ())))):Option ((Int)⊕((Unit)⊕(Bool))))) (0:Int)).bind fun e0=>(match e0 with | .inl _=>(some true) | .inr p0=>(some p0)))
instance Qu6:Spc2 prog 114 Qdp (fun s1_ s2_=>[tsl rI s1_,tsl rI s2_]) tb:=.mk fun {s1_ s2_ r} h=>by
 unfold Qdp at h
 refine Fe func114 ntmps114 fun M0 M w0 hpl=>?_
 refine Qb [1,2] ?_
 refine tIfs h [4,5,6] (fun _ h=>?_) (fun _ h=>?_)
 ·refine Qb [0] ?_
  exact Qu h (·▸Qq hpl)
 refine Qk fun K0 k0=>?_
 refine Qb [1,2,4,5] ?_
 have⟨e0,h0,h⟩:=bs h
 have J0:∀(p0:Unit),(.inl p0)=e0→To M w0 26 [] [] K0:=by
  intro p0 he;subst he;simp only at h;refine k0 ?_;refine Qb [0] ?_;exact Qu h (·▸Qq hpl)
 have J1:∀(p1:Bool),(.inr p1)=e0→To M w0 26 [(4,tb p1)] [] (Ret prog f114 M0 [] w0 (fun _=>[]) (fun _=>tb r) .ret):=by
  intro p1 he;subst he;simp only at h;obtain rfl:=sj h;exact Qq hpl
 refine Qs ?_;refine QaK h0 (fun (s0:Int)=>[(12,ti (s1_.length:Int)),(13,ti s0),(0,tsl rI s1_),(1,tsl rI s2_)]) (fun (s0:Int)=>[]) [0,1,2,3] ?_;clear h;intro s0 o K1 h ho k1;refine Qb [0,1,2,3,4] ?_;refine Qk fun _ k2=>?_;refine Qx h (fun _ h=>?_) (fun _ h=>?_)
 ·refine QE ?_;refine k2 ?_;refine Qk fun _ k3=>?_;refine Qs ?_;refine Qb [1,3,4,5,6] ?_;have⟨_,_,_,_,h⟩:=bs2 h;refine Qb [8,10,11,12,13] ?_;refine Qx h (fun _ h=>?_) (fun _ h=>?_)
  ·refine Qb [0] ?_;refine QaV ?_;exact QM J1 (ho _ (sj h).symm) [0]
  refine QE ?_;refine k3 ?_;refine Q4 [1,3,4,5] ?_;exact QM k1 ((sj h).symm) [1,0,2,3]
 refine Q7 ?_;exact QM J0 (ho _ (sj h).symm) []
def Qdq (a_:Qc) (b_:Qc):Option (Bool):=(opt (((((((a_.Name==b_.Name)&&(a_.Of==b_.Of))&&(a_.Up==b_.Up))&&(a_.Kind==b_.Kind))&&(a_.Lo==b_.Lo))&&(a_.Hi==b_.Hi))==true) (QcE a_.Words b_.Words) default).bind fun t0=>(opt ((((((((a_.Name==b_.Name)&&(a_.Of==b_.Of))&&(a_.Up==b_.Up))&&(a_.Kind==b_.Kind))&&(a_.Lo==b_.Lo))&&(a_.Hi==b_.Hi))&&t0)==true) (Qdp a_.Weights b_.Weights) default).bind fun t1=>(some ((((((((a_.Name==b_.Name)&&(a_.Of==b_.Of))&&(a_.Up==b_.Up))&&(a_.Kind==b_.Kind))&&(a_.Lo==b_.Lo))&&(a_.Hi==b_.Hi))&&t0)&&t1))
instance Qu7:Spc2 prog 67 Qdq (fun a_ b_=>[Qd.ty a_,Qd.ty b_]) tb:=.mk fun {a_ b_ r} h=>by
 unfold Qdq at h
 refine Fe func67 ntmps67 fun M0 M w0 hpl=>?_
 refine Qb [0,1] ?_
 have⟨_,_,_,_,h⟩:=bs2 h
 refine Qb [54] ?_
 exact Qu h (·▸Qq hpl)
def Qe9 (x_:Str) (c0_:(Str→Option Bool)):Option (Bool):=(c0_ x_).bind fun t0=>(some (!t0))
instance Qsn:Spc2 prog 203 Qe9 (fun x_ c0_=>[tv (.string (sB x_)),tptr (Qks.cs c0_)]) tb:=.mk fun {x_ c0_ r} h=>by
 unfold Qe9 at h
 refine Fe func203 ntmps203 fun M0 M w0 hpl=>?_
 refine Qb [1,2] ?_
 have⟨_,_,h⟩:=bs h
 refine Qb [4] ?_
 exact Qu h (·▸Qq hpl)
def QbP (s_:(List Str)) (f_:(Str→Option Bool)):Option (Int):=(Ql (fun (s0:Int)=>((if (decide (s0<(s_.length:Int)))=true then (idx s_ s0).bind fun t0=>(f_ t0).bind fun t1=>(if t1=true then (some (.inr (.inr s0))) else (some (.inl (i64.wrap (s0+1))))) else (some (.inr (.inl ())))):Option ((Int)⊕((Unit)⊕(Int))))) (0:Int)).bind fun e0=>(match e0 with | .inl _=>(some (-1:Int)) | .inr p0=>(some p0))
instance QpV:Spc2 prog 222 QbP (fun s_ f_=>[tsl rS s_,Qks.ty f_]) ti:=.mk fun {s_ f_ r} h=>by
 unfold QbP at h
 refine Fe func222 ntmps222 fun M0 M w0 hpl=>?_
 refine Qb [1,2] ?_
 refine Qk fun K0 k0=>?_
 refine Qb [1,2,3,4] ?_
 have⟨e0,h0,h⟩:=bs h
 have J0:∀(p0:Unit),(.inl p0)=e0→To M w0 19 [] [] K0:=by
  intro p0 he;subst he;simp only at h;refine k0 ?_;refine Qb [0] ?_;exact Qu h (·▸Qq hpl)
 have J1:∀(p1:Int),(.inr p1)=e0→To M w0 19 [(4,ti p1)] [] (Ret prog f222 M0 [] w0 (fun _=>[]) (fun _=>ti r) .ret):=by
  intro p1 he;subst he;simp only at h;obtain rfl:=sj h;exact Qq hpl
 refine Qs ?_;refine QaK h0 (fun (s0:Int)=>[(7,ti (s_.length:Int)),(8,ti s0),(0,tsl rS s_),(1,Qks.ty f_)]) (fun (s0:Int)=>[]) [0,1,2,3] ?_;clear h;intro s0 o K1 h ho k1;refine Qb [0,1,2,3,4] ?_;refine Qk fun _ k2=>?_;refine Qx h (fun _ h=>?_) (fun _ h=>?_)
 ·refine QE ?_;refine k2 ?_;refine Qk fun _ k3=>?_;refine Qs ?_;refine Qb [1,3,4,5,6] ?_;have⟨_,_,_,_,h⟩:=bs2 h;refine Qb [5,6,7,8,9,10] ?_;refine Qx h (fun _ h=>?_) (fun _ h=>?_)
  ·refine Qb [1] ?_;refine QaV ?_;exact QM J1 (ho _ (sj h).symm) [0]
  refine QE ?_;refine k3 ?_;refine Q4 [1,4,5,6] ?_;exact QM k1 ((sj h).symm) [1,0,2,3]
 refine Q7 ?_;exact QM J0 (ho _ (sj h).symm) []
def Qbq (s_:(List Str)) (f_:(Str→Option Bool)):Option (Bool):=(QbP s_ f_).bind fun t0=>(some (decide (t0≥0)))
instance Qom:Spc2 prog 202 Qbq (fun s_ f_=>[tsl rS s_,Qks.ty f_]) tb:=.mk fun {s_ f_ r} h=>by
 unfold Qbq at h
 refine Fe func202 ntmps202 fun M0 M w0 hpl=>?_
 refine Qb [1,2] ?_
 have⟨_,_,h⟩:=bs h
 refine Qb [4] ?_
 exact Qu h (·▸Qq hpl)
def Qcw (l_:(List Str)) (right_:(Str→Option Bool)):Option (Bool):=(Qbq l_ (fun x0=>Qe9 x0 right_)).bind fun t0=>(some (!t0))
instance Qur:Spc2 prog 168 Qcw (fun l_ right_=>[tsl rS l_,Qks.ty right_]) tb:=.mk fun {l_ right_ r} h=>by
 unfold Qcw at h
 refine Fe func168 ntmps168 fun M0 M w0 hpl=>?_
 refine Qb [0,2] ?_
 have⟨_,_,h⟩:=bs h
 refine Qb [4] ?_
 exact Qu h (·▸Qq hpl)
def QdF (words_:(List Str)) (weights_:(List Int)):Option (Bool):=(Ql (fun (s0:Int×Int)=>((if (decide (s0.1<(weights_.length:Int)))=true then (idx weights_ s0.1).bind fun t0=>(Qbl t0 (0:Int) (1048576:Int)).bind fun t1=>(if (!t1)=true then (some (.inr (.inr false))) else (some (.inl ((i64.wrap (s0.1+1)),(i64.wrap (s0.2+t0)))))) else (some (.inr (.inl s0.2)))):Option ((Int×Int)⊕((Int)⊕(Bool))))) ((0:Int),(0:Int))).bind fun e0=>(match e0 with | .inl p0=>(Qbl (words_.length:Int) (1:Int) (12:Int)).bind fun t2=>(opt (((t2&&((words_.length:Int)==(weights_.length:Int)))&&(decide (p0>0)))==true) (Qcw words_ (fun x0=>Qak x0)) default).bind fun t3=>(some (((t2&&((words_.length:Int)==(weights_.length:Int)))&&(decide (p0>0)))&&t3)) | .inr p1=>(some p1))
instance QyK:Spc2 prog 201 QdF (fun words_ weights_=>[tsl rS words_,tsl rI weights_]) tb:=.mk fun {words_ weights_ r} h=>by
 unfold QdF at h
 refine Fe func201 ntmps201 fun M0 M w0 hpl=>?_
 refine Qb [1,2] ?_
 refine Qb [0,1,2] ?_
 refine Qk fun K0 k0=>?_
 refine Qb [0,1,2,3,4,5] ?_
 have⟨e0,h0,h⟩:=bs h
 have J0:∀(p0:Int),(.inl p0)=e0→To M w0 39 [(5,ti p0),(0,tsl rS words_),(1,tsl rI weights_)] [] K0:=by
  intro p0 he;subst he;simp only at h;refine k0 ?_;have⟨_,_,_,_,h⟩:=bs2 h;refine Qb [18] ?_;exact Qu h (·▸Qq hpl)
 have J1:∀(p1:Bool),(.inr p1)=e0→To M w0 39 [(4,tb p1)] [] (Ret prog f201 M0 [] w0 (fun _=>[]) (fun _=>tb r) .ret):=by
  intro p1 he;subst he;simp only at h;obtain rfl:=sj h;exact Qq hpl
 refine Qs ?_;refine QaK h0 (fun (s0:Int×Int)=>[(8,tsl rI weights_),(9,ti (weights_.length:Int)),(10,ti s0.1),(5,ti s0.2),(0,tsl rS words_),(1,tsl rI weights_)]) (fun (s0:Int×Int)=>[]) [0,1,2,3,4,5] ?_;clear h;intro s0 o K1 h ho k1;refine Qb [0,1,2,3,4,5,6] ?_;refine Qk fun _ k2=>?_;refine Qx h (fun _ h=>?_) (fun _ h=>?_)
 ·refine QE ?_;refine k2 ?_;refine Qk fun _ k3=>?_;refine Qs ?_;have⟨_,_,h⟩:=bs h;refine Qb [2,4,5,6,7,8,9] ?_;have⟨_,_,h⟩:=bs h;refine tIfs h [2,3,4,5,6,7,8,9] (fun _ h=>?_) (fun _ h=>?_)
  ·refine Qb [0] ?_;refine QaV ?_;exact QM J1 (ho _ (sj h).symm) [0]
  refine Q4 [3,6,7,8,9,10] ?_;refine k3 ?_;refine Q4 [1,2,3,4,5,6] ?_;exact QM k1 ((sj h).symm) [2,3,0,1,4,5]
 refine Q7 ?_;exact QM J0 (ho _ (sj h).symm) [4,5,6]
def Qeh (f_:Qc):Option (Bool):=(Qak f_.Name).bind fun t0=>(opt ((!t0)==false) (QfO f_) default).bind fun t1=>(opt ((!t0)==false) (Qdq f_ t1) default).bind fun t2=>(if ((!t0)||(!t2))=true then (some false) else (if (f_.Kind==0)=true then (Qbl f_.Lo (-1048576:Int) (1048576:Int)).bind fun t3=>(some t3) else (if (f_.Kind==1)=true then (Qak f_.Of).bind fun t4=>(opt (t4==true) (Qc9 f_.Lo f_.Hi (0:Int) (65536:Int)) default).bind fun t5=>(some (t4&&t5)) else (if (f_.Kind==2)=true then (Qc9 f_.Lo f_.Hi (-1048576:Int) (1048576:Int)).bind fun t6=>(some t6) else (if (f_.Kind==3)=true then (QdF f_.Words f_.Weights).bind fun t7=>(some t7) else (if (f_.Kind==4)=true then (opt ((f_.Of==([]:Str))==false) (Qak f_.Of) default).bind fun t8=>(opt (((f_.Of==([]:Str))||t8)==true) (Qc9 f_.Lo f_.Hi (-1048576:Int) (1048576:Int)) default).bind fun t9=>(some (((f_.Of==([]:Str))||t8)&&t9)) else (if (f_.Kind==5)=true then (Qak f_.Of).bind fun t10=>(opt (t10==true) (Qc9 f_.Lo f_.Hi (0:Int) (32:Int)) default).bind fun t11=>(some (t10&&t11)) else (if (f_.Kind==6)=true then (Qak f_.Of).bind fun t12=>(some t12) else (if (f_.Kind==7)=true then (Qak f_.Of).bind fun t13=>(opt (t13==true) (Qak f_.Up) default).bind fun t14=>(opt ((t13&&t14)==true) (Qc9 f_.Lo f_.Hi (0:Int) (1048576:Int)) default).bind fun t15=>(some ((t13&&t14)&&t15)) else (if (f_.Kind==8)=true then (Qak f_.Of).bind fun t16=>(opt (t16==true) (Qak f_.Up) default).bind fun t17=>(some (t16&&t17)) else (some false)))))))))))
instance QxN:Spc1 prog 166 Qeh (fun f_=>[Qd.ty f_]) tb:=.mk fun {f_ r} h=>by
 unfold Qeh at h
 refine Fe func166 ntmps166 fun M0 M w0 hpl=>?_
 refine Qb [0] ?_
 have⟨_,_,_,_,_,_,h⟩:=bs3 h
 refine tIfs h [10,11] (fun _ h=>?_) (fun _ h=>?_)
 ·refine Qb [0] ?_
  exact Qu h (·▸Qq hpl)
 refine Qk fun _ k0=>?_
 refine Qb [1,3] ?_
 refine Qs ?_
 refine Qb [1,2,3] ?_
 refine Qx h (fun _ h=>?_) (fun _ h=>?_)
 ·have⟨_,_,h⟩:=bs h
  refine Qb [3] ?_
  exact Qu h (·▸Qq hpl)
 refine Qb [1,3,4] ?_
 refine Qx h (fun _ h=>?_) (fun _ h=>?_)
 ·have⟨_,_,_,_,h⟩:=bs2 h
  refine Qb [10] ?_
  exact Qu h (·▸Qq hpl)
 refine Qb [1,3,4] ?_
 refine Qx h (fun _ h=>?_) (fun _ h=>?_)
 ·have⟨_,_,h⟩:=bs h
  refine Qb [5] ?_
  exact Qu h (·▸Qq hpl)
 refine Qb [1,3,4] ?_
 refine Qx h (fun _ h=>?_) (fun _ h=>?_)
 ·have⟨_,_,h⟩:=bs h
  refine Qb [5] ?_
  exact Qu h (·▸Qq hpl)
 refine Qb [1,3,4] ?_
 refine Qx h (fun _ h=>?_) (fun _ h=>?_)
 ·have⟨_,_,_,_,h⟩:=bs2 h
  refine Qb [15] ?_
  exact Qu h (·▸Qq hpl)
 refine Qb [1,3,4] ?_
 refine Qx h (fun _ h=>?_) (fun _ h=>?_)
 ·have⟨_,_,_,_,h⟩:=bs2 h
  refine Qb [10] ?_
  exact Qu h (·▸Qq hpl)
 refine Qb [1,3,4] ?_
 refine Qx h (fun _ h=>?_) (fun _ h=>?_)
 ·have⟨_,_,h⟩:=bs h
  refine Qb [3] ?_
  exact Qu h (·▸Qq hpl)
 refine Qb [1,3,4] ?_
 refine Qx h (fun _ h=>?_) (fun _ h=>?_)
 ·have⟨_,_,_,_,_,_,h⟩:=bs3 h
  refine Qb [15] ?_
  exact Qu h (·▸Qq hpl)
 refine Qb [1,4] ?_
 refine Qx h (fun _ h=>?_) (fun _ h=>?_)
 ·have⟨_,_,_,_,h⟩:=bs2 h
  refine Qb [8] ?_
  exact Qu h (·▸Qq hpl)
 refine QE ?_
 refine k0 ?_
 refine Qb [0] ?_
 exact Qu h (·▸Qq hpl)
def QeM (k_:Qg):Option (Bool):=(Qak k_.Name).bind fun t0=>(opt (t0==true) (Qc9 k_.Lo k_.Hi (0:Int) (65536:Int)) default).bind fun t1=>(opt (((t0&&t1)&&(decide ((k_.Fields.length:Int)≤10)))==true) (Qdo k_.Fields (fun x0=>Qeh x0)) default).bind fun t2=>(some (((t0&&t1)&&(decide ((k_.Fields.length:Int)≤10)))&&t2))
instance QyL:Spc1 prog 121 QeM (fun k_=>[Qh.ty k_]) tb:=.mk fun {k_ r} h=>by
 unfold QeM at h
 refine Fe func121 ntmps121 fun M0 M w0 hpl=>?_
 refine Qb [0] ?_
 have⟨_,_,_,_,_,_,h⟩:=bs3 h
 refine Qb [21] ?_
 exact Qu h (·▸Qq hpl)
def QfP (x_:QB) (c0_:(QB→Option Bool)):Option (Bool):=(c0_ x_).bind fun t0=>(some (!t0))
instance Qus:Spc2 prog 167 QfP (fun x_ c0_=>[QI.ty x_,tptr (Qkp.cs c0_)]) tb:=.mk fun {x_ c0_ r} h=>by
 unfold QfP at h
 refine Fe func167 ntmps167 fun M0 M w0 hpl=>?_
 refine Qb [0,3] ?_
 have⟨_,_,h⟩:=bs h
 refine Qb [4] ?_
 exact Qu h (·▸Qq hpl)
def Qcl (s_:(List QB)) (f_:(QB→Option Bool)):Option (Int):=(Ql (fun (s0:Int)=>((if (decide (s0<(s_.length:Int)))=true then (idx s_ s0).bind fun t0=>(f_ t0).bind fun t1=>(if t1=true then (some (.inr (.inr s0))) else (some (.inl (i64.wrap (s0+1))))) else (some (.inr (.inl ())))):Option ((Int)⊕((Unit)⊕(Int))))) (0:Int)).bind fun e0=>(match e0 with | .inl _=>(some (-1:Int)) | .inr p0=>(some p0))
instance Qrc:Spc2 prog 127 Qcl (fun s_ f_=>[tsl QI s_,Qkp.ty f_]) ti:=.mk fun {s_ f_ r} h=>by
 unfold Qcl at h
 refine Fe func127 ntmps127 fun M0 M w0 hpl=>?_
 refine Qb [1,2] ?_
 refine Qk fun K0 k0=>?_
 refine Qb [1,2,3,4] ?_
 have⟨e0,h0,h⟩:=bs h
 have J0:∀(p0:Unit),(.inl p0)=e0→To M w0 19 [] [] K0:=by
  intro p0 he;subst he;simp only at h;refine k0 ?_;refine Qb [0] ?_;exact Qu h (·▸Qq hpl)
 have J1:∀(p1:Int),(.inr p1)=e0→To M w0 19 [(4,ti p1)] [] (Ret prog f127 M0 [] w0 (fun _=>[]) (fun _=>ti r) .ret):=by
  intro p1 he;subst he;simp only at h;obtain rfl:=sj h;exact Qq hpl
 refine Qs ?_;refine QaK h0 (fun (s0:Int)=>[(7,ti (s_.length:Int)),(8,ti s0),(0,tsl QI s_),(1,Qkp.ty f_)]) (fun (s0:Int)=>[]) [0,1,2,3] ?_;clear h;intro s0 o K1 h ho k1;refine Qb [0,1,2,3,4] ?_;refine Qk fun _ k2=>?_;refine Qx h (fun _ h=>?_) (fun _ h=>?_)
 ·refine QE ?_;refine k2 ?_;refine Qk fun _ k3=>?_;refine Qs ?_;refine Qb [1,3,4,5,6] ?_;have⟨_,_,_,_,h⟩:=bs2 h;refine Qb [5,6,7,8,9,10] ?_;refine Qx h (fun _ h=>?_) (fun _ h=>?_)
  ·refine Qb [1] ?_;refine QaV ?_;exact QM J1 (ho _ (sj h).symm) [0]
  refine QE ?_;refine k3 ?_;refine Q4 [1,4,5,6] ?_;exact QM k1 ((sj h).symm) [1,0,2,3]
 refine Q7 ?_;exact QM J0 (ho _ (sj h).symm) []
def QaR (s_:(List QB)) (f_:(QB→Option Bool)):Option (Bool):=(Qcl s_ f_).bind fun t0=>(some (decide (t0≥0)))
instance Qph:Spc2 prog 79 QaR (fun s_ f_=>[tsl QI s_,Qkp.ty f_]) tb:=.mk fun {s_ f_ r} h=>by
 unfold QaR at h
 refine Fe func79 ntmps79 fun M0 M w0 hpl=>?_
 refine Qb [1,2] ?_
 have⟨_,_,h⟩:=bs h
 refine Qb [4] ?_
 exact Qu h (·▸Qq hpl)
def QdM (l_:(List QB)) (right_:(QB→Option Bool)):Option (Bool):=(QaR l_ (fun x0=>QfP x0 right_)).bind fun t0=>(some (!t0))
instance Qwo:Spc2 prog 122 QdM (fun l_ right_=>[tsl QI l_,Qkp.ty right_]) tb:=.mk fun {l_ right_ r} h=>by
 unfold QdM at h
 refine Fe func122 ntmps122 fun M0 M w0 hpl=>?_
 refine Qb [0,2] ?_
 have⟨_,_,h⟩:=bs h
 refine Qb [4] ?_
 exact Qu h (·▸Qq hpl)
def QdN (m_:QK) (c0_:Int):Option (Bool):=(Qbl m_.a0 (0:Int) (i64.wrap (c0_ - 1))).bind fun t0=>(opt (t0==true) (Qbl m_.a1 (0:Int) (i64.wrap (c0_ - 1))) default).bind fun t1=>(some (t0&&t1))
instance Qwp:Spc2 prog 170 QdN (fun m_ c0_=>[Qal.ty m_,tptr (rI.cs c0_)]) tb:=.mk fun {m_ c0_ r} h=>by
 unfold QdN at h
 refine Fe func170 ntmps170 fun M0 M w0 hpl=>?_
 refine Qb [0,3] ?_
 have⟨_,_,_,_,h⟩:=bs2 h
 refine Qb [12] ?_
 exact Qu h (·▸Qq hpl)
def Qfa (x_:QK) (c0_:(QK→Option Bool)):Option (Bool):=(c0_ x_).bind fun t0=>(some (!t0))
instance Qso:Spc2 prog 205 Qfa (fun x_ c0_=>[Qal.ty x_,tptr (Qkt.cs c0_)]) tb:=.mk fun {x_ c0_ r} h=>by
 unfold Qfa at h
 refine Fe func205 ntmps205 fun M0 M w0 hpl=>?_
 refine Qb [0,3] ?_
 have⟨_,_,h⟩:=bs h
 refine Qb [4] ?_
 exact Qu h (·▸Qq hpl)
def QbQ (s_:(List QK)) (f_:(QK→Option Bool)):Option (Int):=(Ql (fun (s0:Int)=>((if (decide (s0<(s_.length:Int)))=true then (idx s_ s0).bind fun t0=>(f_ t0).bind fun t1=>(if t1=true then (some (.inr (.inr s0))) else (some (.inl (i64.wrap (s0+1))))) else (some (.inr (.inl ())))):Option ((Int)⊕((Unit)⊕(Int))))) (0:Int)).bind fun e0=>(match e0 with | .inl _=>(some (-1:Int)) | .inr p0=>(some p0))
instance QpW:Spc2 prog 223 QbQ (fun s_ f_=>[tsl Qal s_,Qkt.ty f_]) ti:=.mk fun {s_ f_ r} h=>by
 unfold QbQ at h
 refine Fe func223 ntmps223 fun M0 M w0 hpl=>?_
 refine Qb [1,2] ?_
 refine Qk fun K0 k0=>?_
 refine Qb [1,2,3,4] ?_
 have⟨e0,h0,h⟩:=bs h
 have J0:∀(p0:Unit),(.inl p0)=e0→To M w0 19 [] [] K0:=by
  intro p0 he;subst he;simp only at h;refine k0 ?_;refine Qb [0] ?_;exact Qu h (·▸Qq hpl)
 have J1:∀(p1:Int),(.inr p1)=e0→To M w0 19 [(4,ti p1)] [] (Ret prog f223 M0 [] w0 (fun _=>[]) (fun _=>ti r) .ret):=by
  intro p1 he;subst he;simp only at h;obtain rfl:=sj h;exact Qq hpl
 refine Qs ?_;refine QaK h0 (fun (s0:Int)=>[(7,ti (s_.length:Int)),(8,ti s0),(0,tsl Qal s_),(1,Qkt.ty f_)]) (fun (s0:Int)=>[]) [0,1,2,3] ?_;clear h;intro s0 o K1 h ho k1;refine Qb [0,1,2,3,4] ?_;refine Qk fun _ k2=>?_;refine Qx h (fun _ h=>?_) (fun _ h=>?_)
 ·refine QE ?_;refine k2 ?_;refine Qk fun _ k3=>?_;refine Qs ?_;refine Qb [1,3,4,5,6] ?_;have⟨_,_,_,_,h⟩:=bs2 h;refine Qb [5,6,7,8,9,10] ?_;refine Qx h (fun _ h=>?_) (fun _ h=>?_)
  ·refine Qb [1] ?_;refine QaV ?_;exact QM J1 (ho _ (sj h).symm) [0]
  refine QE ?_;refine k3 ?_;refine Q4 [1,4,5,6] ?_;exact QM k1 ((sj h).symm) [1,0,2,3]
 refine Q7 ?_;exact QM J0 (ho _ (sj h).symm) []
def Qbr (s_:(List QK)) (f_:(QK→Option Bool)):Option (Bool):=(QbQ s_ f_).bind fun t0=>(some (decide (t0≥0)))
instance Qon:Spc2 prog 204 Qbr (fun s_ f_=>[tsl Qal s_,Qkt.ty f_]) tb:=.mk fun {s_ f_ r} h=>by
 unfold Qbr at h
 refine Fe func204 ntmps204 fun M0 M w0 hpl=>?_
 refine Qb [1,2] ?_
 have⟨_,_,h⟩:=bs h
 refine Qb [4] ?_
 exact Qu h (·▸Qq hpl)
def Qda (l_:(List QK)) (right_:(QK→Option Bool)):Option (Bool):=(Qbr l_ (fun x0=>Qfa x0 right_)).bind fun t0=>(some (!t0))
instance Qut:Spc2 prog 169 Qda (fun l_ right_=>[tsl Qal l_,Qkt.ty right_]) tb:=.mk fun {l_ right_ r} h=>by
 unfold Qda at h
 refine Fe func169 ntmps169 fun M0 M w0 hpl=>?_
 refine Qb [0,2] ?_
 have⟨_,_,h⟩:=bs h
 refine Qb [4] ?_
 exact Qu h (·▸Qq hpl)
def QeN (x_:QB):Option (Bool):=(Qak x_.Name).bind fun t0=>(opt (t0==true) (Qbl (x_.States.length:Int) (1:Int) (12:Int)) default).bind fun t1=>(opt ((t0&&t1)==true) (Qcw x_.States (fun x0=>Qak x0)) default).bind fun t2=>(opt ((((t0&&t1)&&t2)&&(decide ((x_.Moves.length:Int)≤32)))==true) (Qda x_.Moves (fun x0=>QdN x0 (x_.States.length:Int))) default).bind fun t3=>(some ((((t0&&t1)&&t2)&&(decide ((x_.Moves.length:Int)≤32)))&&t3))
instance QyM:Spc1 prog 123 QeN (fun x_=>[QI.ty x_]) tb:=.mk fun {x_ r} h=>by
 unfold QeN at h
 refine Fe func123 ntmps123 fun M0 M w0 hpl=>?_
 refine Qb [0] ?_
 refine QV [v1 3 (fun v0=>box (rI.cs (0:Int)) v0),v1 3 (fun v0=>box (rI.cs (x_.States.length:Int)) v0)] [4,5] [3,4] fun m0=>?_
 refine Qaa (fun _ _ H=>((H.shareB 0 rfl).add 0 rfl (fun _ _ _ h=>h.2)).pick [0,3]) ?_
 have⟨_,_,_,_,_,_,_,_,h⟩:=bs4 h
 refine Qb [24] ?_
 exact Qu h (·▸Qq hpl)
def QfQ (x_:Qo) (c0_:(Qo→Option Bool)):Option (Bool):=(c0_ x_).bind fun t0=>(some (!t0))
instance Quu:Spc2 prog 171 QfQ (fun x_ c0_=>[QF.ty x_,tptr (Qko.cs c0_)]) tb:=.mk fun {x_ c0_ r} h=>by
 unfold QfQ at h
 refine Fe func171 ntmps171 fun M0 M w0 hpl=>?_
 refine Qb [0,3] ?_
 have⟨_,_,h⟩:=bs h
 refine Qb [4] ?_
 exact Qu h (·▸Qq hpl)
def Qcm (s_:(List Qo)) (f_:(Qo→Option Bool)):Option (Int):=(Ql (fun (s0:Int)=>((if (decide (s0<(s_.length:Int)))=true then (idx s_ s0).bind fun t0=>(f_ t0).bind fun t1=>(if t1=true then (some (.inr (.inr s0))) else (some (.inl (i64.wrap (s0+1))))) else (some (.inr (.inl ())))):Option ((Int)⊕((Unit)⊕(Int))))) (0:Int)).bind fun e0=>(match e0 with | .inl _=>(some (-1:Int)) | .inr p0=>(some p0))
instance Qrd:Spc2 prog 113 Qcm (fun s_ f_=>[tsl QF s_,Qko.ty f_]) ti:=.mk fun {s_ f_ r} h=>by
 unfold Qcm at h
 refine Fe func113 ntmps113 fun M0 M w0 hpl=>?_
 refine Qb [1,2] ?_
 refine Qk fun K0 k0=>?_
 refine Qb [1,2,3,4] ?_
 have⟨e0,h0,h⟩:=bs h
 have J0:∀(p0:Unit),(.inl p0)=e0→To M w0 19 [] [] K0:=by
  intro p0 he;subst he;simp only at h;refine k0 ?_;refine Qb [0] ?_;exact Qu h (·▸Qq hpl)
 have J1:∀(p1:Int),(.inr p1)=e0→To M w0 19 [(4,ti p1)] [] (Ret prog f113 M0 [] w0 (fun _=>[]) (fun _=>ti r) .ret):=by
  intro p1 he;subst he;simp only at h;obtain rfl:=sj h;exact Qq hpl
 refine Qs ?_;refine QaK h0 (fun (s0:Int)=>[(7,ti (s_.length:Int)),(8,ti s0),(0,tsl QF s_),(1,Qko.ty f_)]) (fun (s0:Int)=>[]) [0,1,2,3] ?_;clear h;intro s0 o K1 h ho k1;refine Qb [0,1,2,3,4] ?_;refine Qk fun _ k2=>?_;refine Qx h (fun _ h=>?_) (fun _ h=>?_)
 ·refine QE ?_;refine k2 ?_;refine Qk fun _ k3=>?_;refine Qs ?_;refine Qb [1,3,4,5,6] ?_;have⟨_,_,_,_,h⟩:=bs2 h;refine Qb [5,6,7,8,9,10] ?_;refine Qx h (fun _ h=>?_) (fun _ h=>?_)
  ·refine Qb [1] ?_;refine QaV ?_;exact QM J1 (ho _ (sj h).symm) [0]
  refine QE ?_;refine k3 ?_;refine Q4 [1,4,5,6] ?_;exact QM k1 ((sj h).symm) [1,0,2,3]
 refine Q7 ?_;exact QM J0 (ho _ (sj h).symm) []
def Qbb (s_:(List Qo)) (f_:(Qo→Option Bool)):Option (Bool):=(Qcm s_ f_).bind fun t0=>(some (decide (t0≥0)))
instance Qpi:Spc2 prog 130 Qbb (fun s_ f_=>[tsl QF s_,Qko.ty f_]) tb:=.mk fun {s_ f_ r} h=>by
 unfold Qbb at h
 refine Fe func130 ntmps130 fun M0 M w0 hpl=>?_
 refine Qb [1,2] ?_
 have⟨_,_,h⟩:=bs h
 refine Qb [4] ?_
 exact Qu h (·▸Qq hpl)
def QdO (l_:(List Qo)) (right_:(Qo→Option Bool)):Option (Bool):=(Qbb l_ (fun x0=>QfQ x0 right_)).bind fun t0=>(some (!t0))
instance Qwq:Spc2 prog 124 QdO (fun l_ right_=>[tsl QF l_,Qko.ty right_]) tb:=.mk fun {l_ right_ r} h=>by
 unfold QdO at h
 refine Fe func124 ntmps124 fun M0 M w0 hpl=>?_
 refine Qb [0,2] ?_
 have⟨_,_,h⟩:=bs h
 refine Qb [4] ?_
 exact Qu h (·▸Qq hpl)
def QeO (r_:Qo):Option (Bool):=(Qak r_.Name).bind fun t0=>(opt (t0==true) (Qak r_.Kind) default).bind fun t1=>(opt (((t0&&t1)==true)&&((r_.A==([]:Str))==false)) (Qak r_.A) default).bind fun t2=>(opt ((((t0&&t1)&&((r_.A==([]:Str))||t2))==true)&&((r_.B==([]:Str))==false)) (Qak r_.B) default).bind fun t3=>(opt ((((t0&&t1)&&((r_.A==([]:Str))||t2))&&((r_.B==([]:Str))||t3))==true) (cat (r_.A.length+r_.B.length)) default).bind fun _=>(opt (((((t0&&t1)&&((r_.A==([]:Str))||t2))&&((r_.B==([]:Str))||t3))&&((r_.A++r_.B) !=([]:Str)))==true) (Qbl r_.N (-1048576:Int) (1048576:Int)) default).bind fun t4=>(some (((((t0&&t1)&&((r_.A==([]:Str))||t2))&&((r_.B==([]:Str))||t3))&&((r_.A++r_.B) !=([]:Str)))&&t4))
instance QyN:Spc1 prog 125 QeO (fun r_=>[QF.ty r_]) tb:=.mk fun {r_ r} h=>by
 unfold QeO at h
 refine Fe func125 ntmps125 fun M0 M w0 hpl=>?_
 refine Qb [0] ?_
 have⟨_,_,_,_,_,_,_,_,h⟩:=bs4 h
 have⟨_,_,_,_,h⟩:=bs2 h
 refine Qb [41] ?_
 exact Qu h (·▸Qq hpl)
def QaC (word_:Str) (l_:(List AnyV)):Option (Str):=(Qa3 ([]:Str) word_).bind fun t0=>(Ql (fun (s0:Int×Str)=>((if (decide (s0.1<(l_.length:Int)))=true then (idx l_ s0.1).bind fun t1=>(QhO s0.2 (32:Int)).bind fun t2=>((if t1.asInt.2=true then (QnK t1.asInt.1).bind fun t3=>(Qa3 t2 t3).bind fun t4=>(some t4) else ((if t1.asStr.2=true then (Qa3 t2 t1.asStr.1).bind fun t5=>(some t5) else (some t2))).bind fun p0=>(some p0))).bind fun p1=>(some (.inl ((i64.wrap (s0.1+1)),p1))) else (some (.inr s0.2))):Option ((Int×Str)⊕((Str))))) ((0:Int),t0)).bind fun p2=>(QgL p2).bind fun t6=>(cat (t6.length+([10]:Str).length)).bind fun _=>(some (t6++([10]:Str)))
instance QdG:SpcS prog 173 (∀{word_:Str} {l_:(List AnyV)} {r:Str},QaC word_ l_=some r→FnOk prog 173 [tv (.string (sB word_)),tsl (rAny 3 9) l_] [glo] (fun _=>[]) (fun _=>tv (.string (sB r)))):=.mk fun {word_ l_ r} h=>by
 unfold QaC at h
 refine Fe func173 ntmps173 fun M0 M w0 hpl=>?_
 refine Qb [1,2] ?_
 intro a w H
 refine sr mx [v1 0 (fun v0=>bld ([]:Str) v0 nilV)] H (fun _=>.m [] [1] rfl rfl rfl (Qpa bInfo)<|.n) fun m0 a w H=>?_
 have H:=H.to [0,1,2] [_,_,_] [_,_] rfl rfl
 refine Q2 H ?_
 have⟨t0,h0,h⟩:=bs h
 intro a w H
 refine sr mx [v1 1 (fun v0=>bld t0 (m0 0) v0)] H (fun _=>.q 1 rfl<|.e [] [1] [2] rfl rfl rfl rfl (QG Qf8 (QbC h0) (.cons (.of z1)<|.cons (.of z0)<|.nil))<|.n) fun m1 a w H=>?_
 have H:=H.to [2,4] [_,_] [_,_] rfl rfl
 refine Q2 H ?_
 refine Qk fun K0 k0=>?_
 refine Qb [0,1,2,3] ?_
 have⟨e0,h1,h⟩:=bs h
 have J0:∀(p0:Str) (y0:Value),p0=e0→To M w0 34 [(5,tv (m0 0))] [glo,bld p0 (m0 0) y0] K0:=by
  intro p0 y0 he;subst he;refine k0 ?_;have⟨t1,h2,_,h3,h⟩:=bs2 h;intro a w H;refine sr mx [] H (fun _=>.e [] [1] [] rfl rfl rfl rfl (QG Qth (QnL h2) (.cons (.of z0)<|.nil))<|.o (Qfs z0 .k h3)<|.o (Qi z0)<|.n) fun _ a w H=>?_;have H:=H.t1_1 [2];refine Q2 H ?_;exact Qu h (·▸Qq hpl)
 refine Qs ?_;refine Qa6 h1 (fun (s0:Int×Str) (y1:Value)=>[(12,tsl (rAny 3 9) l_),(13,ti (l_.length:Int)),(14,ti s0.1),(5,tv (m0 0))]) (fun (s0:Int×Str) (y1:Value)=>[glo,bld s0.2 (m0 0) y1]) (m1 1) [0,1,2,3] ?_;clear h;intro s0 y1 o K1 h ho k1;refine Qb [0,1,2,3,4] ?_;refine Qk fun _ k2=>?_;refine Qx h (fun _ h=>?_) (fun _ h=>?_)
 ·refine QE ?_;refine k2 ?_;refine Qk fun K2 k3=>?_;refine Qs ?_;have⟨t2,_,h⟩:=bs h;refine Qb [2,4,5,6,7] ?_;have⟨t3,h4,h⟩:=bs h;intro a w H;refine sr mx [v1 0 (fun v0=>bld t3 (m0 0) v0)] H (fun _=>.e [] [1] [2] rfl rfl rfl rfl (QG QBw (QpU h4) (.cons (.of z4)<|.cons (.of .k)<|.nil))<|.n) fun m2 a w H=>?_;have H:=H.t5_2 [1,2,3,4,5];refine Q2 H ?_;refine Qb [0,2,3,4,5] ?_;refine Qs ?_;intro a w H;refine sr mx [] H (fun _=>.o (op_asI (by decide) tok3 ud3 z0)<|.o (Qac z0 rfl)<|.o (Qac z1 rfl)<|.n) fun _ a w H=>?_;have H:=H.t7_2 [1,2,3,4,5,6,7];refine Q2 H ?_;have⟨p1,h5,h⟩:=bs h;have J1:∀(y2:Value),To M w0 34 [(12,tsl (rAny 3 9) l_),(13,ti (l_.length:Int)),(14,ti s0.1),(5,tv (m0 0))] [glo,bld p1 (m0 0) y2] K2:=by
   intro y2;refine k3 ?_;refine Q4 [1,2,3,4] ?_;exact Qae k1 y2 ((sj h).symm) [1,2,0,3]
  replace h:=h5;clear h5;refine Qx h (fun _ h=>?_) (fun _ h=>?_)
  ·refine Qb [0,4,5,6,7] ?_;have⟨_,h6,t4,h7,h⟩:=bs2 h;intro a w H;refine wr mx [v1 2 (fun v0=>bld t4 (m0 0) v0)] H (fun _=>.q 0 rfl<|.u [0] rfl rfl ((QG QBx (QBy h6) (.cons (.of z0)<|.nil)).glo)<|.e [] [1] [2] rfl rfl rfl rfl (QG Qf8 (QbC h7) (.cons (.of z6)<|.cons (.of z0)<|.nil))<|.n) fun m3 a w H=>?_;have H:=H.t4_2 [4,5,6,7];refine QbD H ?_;obtain rfl:=sj h;exact Q3 (J1 (m3 2)) [0,1,2,3]
  intro a w H;refine sr mx [] H (fun _=>.o (op_asS (by decide) tok9 ud9 z2)<|.o (Qac z0 rfl)<|.o (Qac z1 rfl)<|.n) fun _ a w H=>?_;have H:=H.t6_2 [1,2,6,7,8,9];refine Q2 H ?_;have⟨p2,h8,h⟩:=bs h;have J2:∀(y3:Value),To M w0 34 [(12,tsl (rAny 3 9) l_),(13,ti (l_.length:Int)),(14,ti s0.1),(5,tv (m0 0))] [glo,bld p2 (m0 0) y3] K2:=by
   intro y3;obtain rfl:=sj h;exact Q3 (J1 y3) [0,1,2,3]
  replace h:=h8;clear h8;refine Qx h (fun _ h=>?_) (fun _ h=>?_)
  ·refine Qb [0,3,4,5,6] ?_;have⟨t5,h9,h⟩:=bs h;intro a w H;refine wr mx [v1 1 (fun v0=>bld t5 (m0 0) v0)] H (fun _=>.q 0 rfl<|.e [] [1] [2] rfl rfl rfl rfl (QG Qf8 (QbC h9) (.cons (.of z5)<|.cons (.of z0)<|.nil))<|.n) fun m4 a w H=>?_;have H:=H.t4_2 [3,4,5,6];refine QbD H ?_;obtain rfl:=sj h;exact Q3 (J2 (m4 1)) [0,1,2,3]
  refine QE ?_;obtain rfl:=sj h;exact Q3 (J2 (m2 0)) [2,3,4,5]
 refine Q7 ?_;exact Qae J0 y1 (ho _ (sj h).symm) [4]
def Qf9 (vals_:(List Str)):Option (Str):=(Ql (fun (s0:Int)=>((if (decide (s0<(vals_.length:Int)))=true then (idx vals_ s0).bind fun t0=>(if (t0 !=([]:Str))=true then (some (.inr (.inr t0))) else (some (.inl (i64.wrap (s0+1))))) else (some (.inr (.inl ())))):Option ((Int)⊕((Unit)⊕(Str))))) (0:Int)).bind fun e0=>(match e0 with | .inl _=>(some ([]:Str)) | .inr p0=>(some p0))
instance QyO:Spc1 prog 209 Qf9 (fun vals_=>[tsl rS vals_]) (fun r=>tv (.string (sB r))):=.mk fun {vals_ r} h=>by
 unfold Qf9 at h
 refine Fe func209 ntmps209 fun M0 M w0 hpl=>?_
 refine Qb [1] ?_
 refine Qb [0,1] ?_
 refine Qk fun K0 k0=>?_
 refine Qb [0,1,2,3] ?_
 have⟨e0,h0,h⟩:=bs h
 have J0:∀(p0:Unit),(.inl p0)=e0→To M w0 18 [(3,tv (.string (sB ([]:Str))))] [] K0:=by
  intro p0 he;subst he;simp only at h;refine k0 ?_;refine Qb [1] ?_;exact Qu h (·▸Qq hpl)
 have J1:∀(p1:Str),(.inr p1)=e0→To M w0 18 [(2,tv (.string (sB p1)))] [] (Ret prog f209 M0 [] w0 (fun _=>[]) (fun _=>tv (.string (sB r))) .ret):=by
  intro p1 he;subst he;simp only at h;obtain rfl:=sj h;exact Qq hpl
 refine Qs ?_;refine QaK h0 (fun (s0:Int)=>[(6,tsl rS vals_),(7,ti (vals_.length:Int)),(8,ti s0),(3,tv (.string (sB ([]:Str))))]) (fun (s0:Int)=>[]) [0,1,2,3] ?_;clear h;intro s0 o K1 h ho k1;refine Qb [0,1,2,3,4] ?_;refine Qk fun _ k2=>?_;refine Qx h (fun _ h=>?_) (fun _ h=>?_)
 ·refine QE ?_;refine k2 ?_;refine Qk fun _ k3=>?_;refine Qs ?_;have⟨_,_,h⟩:=bs h;refine Qb [2,4,5,6,7] ?_;refine Qb [2,3,4,5,6,7] ?_;refine Qx h (fun _ h=>?_) (fun _ h=>?_)
  ·refine Qb [1] ?_;refine QaV ?_;exact QM J1 (ho _ (sj h).symm) [0]
  refine QE ?_;refine k3 ?_;refine Q4 [1,4,5,6] ?_;exact QM k1 ((sj h).symm) [1,2,0,3]
 refine Q7 ?_;exact QM J0 (ho _ (sj h).symm) [4]
def Qdj (s_:Str):Option (Str):=(Qf9 [s_,([45]:Str)]).bind fun t0=>(some t0)
instance Qje:Spc1 prog 175 Qdj (fun s_=>[tv (.string (sB s_))]) (fun r=>tv (.string (sB r))):=.mk fun {s_ r} h=>by
 unfold Qdj at h
 refine Fe func175 ntmps175 fun M0 M w0 hpl=>?_
 refine Qb [1] ?_
 have⟨_,_,h⟩:=bs h
 refine Qb [3] ?_
 exact Qu h (·▸Qq hpl)
