/- The walk. No condition. -/
import Derived.Test.YtjioihpegfgbpaaGreatDoorGenG
set_option linter.all false
open Go.Proofs.Tryz Go.IntKind
namespace Go.Proofs.YtjioihpegfgbpaaGreatDoor
noncomputable section
open Go.Sim
set_option maxRecDepth 100000
set_option maxHeartbeats 4000000
def Qea (s1_:(List Int)) (s2_:(List Int)):Option (Bool):=(if ((s1_.length:Int) !=(s2_.length:Int))=true then (some false) else (Qz (λ(s0:Int)=>((if (decide (s0<(s1_.length:Int)))=true then (idx s1_ s0).bind λt0=>(idx s2_ s0).bind λt1=>(if (t0 !=t1)=true then (some (.inr (.inr false))) else (some (.inl (i64.wrap (s0+1))))) else (some (.inr (.inl ())))):Option ((Int)⊕((Unit)⊕(Bool))))) (0:Int)).bind λe0=>(match e0 with | .inl _=>(some true) | .inr p0=>(some p0)))
instance QtV:Spc2 prog 187 Qea (λs1_ s2_=>[tsl rI s1_,tsl rI s2_]) tb:=.mk λ{s1_ s2_ r} h=>by
 unfold Qea at h
 refine Fe func187 ntmps187 λM0 M w0 hpl=>?_
 refine QyV [1,2] ?_
 refine tIfs h [4,5,6] (λ_ h=>?_) (λ_ h=>?_)
 ·refine QyV [0] ?_
  exact QyZ h (·▸QyX hpl)
 refine QyY λK0 k0=>?_
 refine QyV [1,2,4,5] ?_
 have⟨e0,h0,h⟩:=bs h
 have J0:∀(p0:Unit),(.inl p0)=e0->To M w0 26 [] [] K0:=by
  intro p0 he;subst he;simp only at h;refine k0 <|QyV [0] ?_;exact QyZ h (·▸QyX hpl)
 have J1:∀(p1:Bool),(.inr p1)=e0->To M w0 26 [(4,tb p1)] [] (Ret prog f187 M0 [] w0 (λ_=>[]) (λ_=>tb r) .ret):=by
  intro p1 he;subst he;simp only at h;obtain rfl:=sj h;exact QyX hpl
 refine Qy1 <|Qzb h0 (λ(s0:Int)=>[(12,ti (s1_.length:Int)),(13,ti s0),(0,tsl rI s1_),(1,tsl rI s2_)]) (λ(s0:Int)=>[]) [0,1,2,3] ?_;clear h;intro s0 o K1 h ho k1;refine QyV [0,1,2,3,4] ?_;refine QyY λ_ k2=>Qy0 h (λ_ h=>?_) (λ_ h=>?_)
 ·refine Qy2 <|k2 <|QyY λ_ k3=>Qy1 <|QyV [1,3,4,5,6] ?_;have⟨_,_,_,_,h⟩:=bs2 h;refine QyV [8,10,11,12,13] ?_;refine Qy0 h (λ_ h=>?_) (λ_ h=>?_)
  ·refine QyV [0] ?_;refine Qzd ?_;exact Qy4 J1 (ho _ (sj h).symm) [0]
  refine Qy2 <|k3 <|Qy6 [1,3,4,5] ?_;exact Qy4 k1 ((sj h).symm) [1,0,2,3]
 refine Qy7 <|Qy4 J0 (ho _ (sj h).symm) []
def Qeb (a_:Qd) (b_:Qd):Option (Bool):=(opt (((((((a_.Xi==b_.Xi)&&(a_.Of==b_.Of))&&(a_.Up==b_.Up))&&(a_.Xh==b_.Xh))&&(a_.Lo==b_.Lo))&&(a_.Hi==b_.Hi))==true) (Qdg a_.Words b_.Words) default).bind λt0=>(opt ((((((((a_.Xi==b_.Xi)&&(a_.Of==b_.Of))&&(a_.Up==b_.Up))&&(a_.Xh==b_.Xh))&&(a_.Lo==b_.Lo))&&(a_.Hi==b_.Hi))&&t0)==true) (Qea a_.Xf b_.Xf) default).bind λt1=>(some ((((((((a_.Xi==b_.Xi)&&(a_.Of==b_.Of))&&(a_.Up==b_.Up))&&(a_.Xh==b_.Xh))&&(a_.Lo==b_.Lo))&&(a_.Hi==b_.Hi))&&t0)&&t1))
instance QtW:Spc2 prog 172 Qeb (λa_ b_=>[Qe.ty a_,Qe.ty b_]) tb:=.mk λ{a_ b_ r} h=>by
 unfold Qeb at h
 refine Fe func172 ntmps172 λM0 M w0 hpl=>?_
 refine QyV [0,1] ?_
 have⟨_,_,_,_,h⟩:=bs2 h
 refine QyV [54] ?_
 exact QyZ h (·▸QyX hpl)
def Qf5 (x_:Str) (c0_:(Str->Option Bool)):Option (Bool):=(c0_ x_).bind λt0=>(some (!t0))
instance Qr2:Spc2 prog 176 Qf5 (λx_ c0_=>[tv (.string (sB x_)),tptr (Qos.cs c0_)]) tb:=.mk λ{x_ c0_ r} h=>by
 unfold Qf5 at h
 refine Fe func176 ntmps176 λM0 M w0 hpl=>?_
 refine QyV [1,2] ?_
 have⟨_,_,h⟩:=bs h
 refine QyV [4] ?_
 exact QyZ h (·▸QyX hpl)
def Qcg (s_:(List Str)) (f_:(Str->Option Bool)):Option (Int):=(Qz (λ(s0:Int)=>((if (decide (s0<(s_.length:Int)))=true then (idx s_ s0).bind λt0=>(f_ t0).bind λt1=>(if t1=true then (some (.inr (.inr s0))) else (some (.inl (i64.wrap (s0+1))))) else (some (.inr (.inl ())))):Option ((Int)⊕((Unit)⊕(Int))))) (0:Int)).bind λe0=>(match e0 with | .inl _=>(some (-1:Int)) | .inr p0=>(some p0))
instance Qqf:Spc2 prog 188 Qcg (λs_ f_=>[tsl rS s_,Qos.ty f_]) ti:=.mk λ{s_ f_ r} h=>by
 unfold Qcg at h
 refine Fe func188 ntmps188 λM0 M w0 hpl=>?_
 refine QyV [1,2] ?_
 refine QyY λK0 k0=>?_
 refine QyV [1,2,3,4] ?_
 have⟨e0,h0,h⟩:=bs h
 have J0:∀(p0:Unit),(.inl p0)=e0->To M w0 19 [] [] K0:=by
  intro p0 he;subst he;simp only at h;refine k0 <|QyV [0] ?_;exact QyZ h (·▸QyX hpl)
 have J1:∀(p1:Int),(.inr p1)=e0->To M w0 19 [(4,ti p1)] [] (Ret prog f188 M0 [] w0 (λ_=>[]) (λ_=>ti r) .ret):=by
  intro p1 he;subst he;simp only at h;obtain rfl:=sj h;exact QyX hpl
 refine Qy1 <|Qzb h0 (λ(s0:Int)=>[(7,ti (s_.length:Int)),(8,ti s0),(0,tsl rS s_),(1,Qos.ty f_)]) (λ(s0:Int)=>[]) [0,1,2,3] ?_;clear h;intro s0 o K1 h ho k1;refine QyV [0,1,2,3,4] ?_;refine QyY λ_ k2=>Qy0 h (λ_ h=>?_) (λ_ h=>?_)
 ·refine Qy2 <|k2 <|QyY λ_ k3=>Qy1 <|QyV [1,3,4,5,6] ?_;have⟨_,_,_,_,h⟩:=bs2 h;refine QyV [5,6,7,8,9,10] ?_;refine Qy0 h (λ_ h=>?_) (λ_ h=>?_)
  ·refine QyV [1] ?_;refine Qzd ?_;exact Qy4 J1 (ho _ (sj h).symm) [0]
  refine Qy2 <|k3 <|Qy6 [1,4,5,6] ?_;exact Qy4 k1 ((sj h).symm) [1,0,2,3]
 refine Qy7 <|Qy4 J0 (ho _ (sj h).symm) []
def QbO (s_:(List Str)) (f_:(Str->Option Bool)):Option (Bool):=(Qcg s_ f_).bind λt0=>(some (decide (t0>=0)))
instance Qo6:Spc2 prog 175 QbO (λs_ f_=>[tsl rS s_,Qos.ty f_]) tb:=.mk λ{s_ f_ r} h=>by
 unfold QbO at h
 refine Fe func175 ntmps175 λM0 M w0 hpl=>?_
 refine QyV [1,2] ?_
 have⟨_,_,h⟩:=bs h
 refine QyV [4] ?_
 exact QyZ h (·▸QyX hpl)
def Qc1 (l_:(List Str)) (right_:(Str->Option Bool)):Option (Bool):=(QbO l_ (λx0=>Qf5 x0 right_)).bind λt0=>(some (!t0))
instance Qtm:Spc2 prog 148 Qc1 (λl_ right_=>[tsl rS l_,Qos.ty right_]) tb:=.mk λ{l_ right_ r} h=>by
 unfold Qc1 at h
 refine Fe func148 ntmps148 λM0 M w0 hpl=>?_
 refine QyV [0,2] ?_
 have⟨_,_,h⟩:=bs h
 refine QyV [4] ?_
 exact QyZ h (·▸QyX hpl)
def QdE (words_:(List Str)) (weights_:(List Int)):Option (Bool):=(Qz (λ(s0:Int×Int)=>((if (decide (s0.1<(weights_.length:Int)))=true then (idx weights_ s0.1).bind λt0=>(Qbw t0 0 1048576).bind λt1=>(if (!t1)=true then (some (.inr (.inr false))) else (some (.inl ((i64.wrap (s0.1+1)),(i64.wrap (s0.2+t0)))))) else (some (.inr (.inl s0.2)))):Option ((Int×Int)⊕((Int)⊕(Bool))))) ((0:Int),(0:Int))).bind λe0=>(match e0 with | .inl p0=>(Qbw (words_.length:Int) 1 12).bind λt2=>(opt (((t2&&((words_.length:Int)==(weights_.length:Int)))&&(decide (p0>0)))==true) (Qc1 words_ (λx0=>Qax x0)) default).bind λt3=>(some (((t2&&((words_.length:Int)==(weights_.length:Int)))&&(decide (p0>0)))&&t3)) | .inr p1=>(some p1))
instance Qwl:Spc2 prog 174 QdE (λwords_ weights_=>[tsl rS words_,tsl rI weights_]) tb:=.mk λ{words_ weights_ r} h=>by
 unfold QdE at h
 refine Fe func174 ntmps174 λM0 M w0 hpl=>?_
 refine QyV [1,2] ?_
 refine QyV [0,1,2] ?_
 refine QyY λK0 k0=>?_
 refine QyV [0,1,2,3,4,5] ?_
 have⟨e0,h0,h⟩:=bs h
 have J0:∀(p0:Int),(.inl p0)=e0->To M w0 39 [(5,ti p0),(0,tsl rS words_),(1,tsl rI weights_)] [] K0:=by
  intro p0 he;subst he;simp only at h;refine k0 ?_;have⟨_,_,_,_,h⟩:=bs2 h;refine QyV [18] ?_;exact QyZ h (·▸QyX hpl)
 have J1:∀(p1:Bool),(.inr p1)=e0->To M w0 39 [(4,tb p1)] [] (Ret prog f174 M0 [] w0 (λ_=>[]) (λ_=>tb r) .ret):=by
  intro p1 he;subst he;simp only at h;obtain rfl:=sj h;exact QyX hpl
 refine Qy1 <|Qzb h0 (λ(s0:Int×Int)=>[(8,tsl rI weights_),(9,ti (weights_.length:Int)),(10,ti s0.1),(5,ti s0.2),(0,tsl rS words_),(1,tsl rI weights_)]) (λ(s0:Int×Int)=>[]) [0,1,2,3,4,5] ?_;clear h;intro s0 o K1 h ho k1;refine QyV [0,1,2,3,4,5,6] ?_;refine QyY λ_ k2=>Qy0 h (λ_ h=>?_) (λ_ h=>?_)
 ·refine Qy2 <|k2 <|QyY λ_ k3=>Qy1 ?_;have⟨_,_,h⟩:=bs h;refine QyV [2,4,5,6,7,8,9] ?_;have⟨_,_,h⟩:=bs h;refine tIfs h [2,3,4,5,6,7,8,9] (λ_ h=>?_) (λ_ h=>?_)
  ·refine QyV [0] ?_;refine Qzd ?_;exact Qy4 J1 (ho _ (sj h).symm) [0]
  refine Qy6 [3,6,7,8,9,10] ?_;refine k3 <|Qy6 [1,2,3,4,5,6] ?_;exact Qy4 k1 ((sj h).symm) [2,3,0,1,4,5]
 refine Qy7 <|Qy4 J0 (ho _ (sj h).symm) [4,5,6]
def Qfb (f_:Qd):Option (Bool):=(Qax f_.Xi).bind λt0=>(opt ((!t0)==false) (Qg8 f_) default).bind λt1=>(opt ((!t0)==false) (Qeb f_ t1) default).bind λt2=>(if ((!t0)||(!t2))=true then (some false) else (if (f_.Xh==0)=true then (Qbw f_.Lo (-1048576) 1048576).bind λt3=>(some t3) else (if (f_.Xh==1)=true then (Qax f_.Of).bind λt4=>(opt (t4==true) (QdP f_.Lo f_.Hi 0 65536) default).bind λt5=>(some (t4&&t5)) else (if (f_.Xh==2)=true then (QdP f_.Lo f_.Hi (-1048576) 1048576).bind λt6=>(some t6) else (if (f_.Xh==3)=true then (QdE f_.Words f_.Xf).bind λt7=>(some t7) else (if (f_.Xh==4)=true then (opt ((f_.Of==([]:Str))==false) (Qax f_.Of) default).bind λt8=>(opt (((f_.Of==([]:Str))||t8)==true) (QdP f_.Lo f_.Hi (-1048576) 1048576) default).bind λt9=>(some (((f_.Of==([]:Str))||t8)&&t9)) else (if (f_.Xh==5)=true then (Qax f_.Of).bind λt10=>(opt (t10==true) (QdP f_.Lo f_.Hi 0 32) default).bind λt11=>(some (t10&&t11)) else (if (f_.Xh==6)=true then (Qax f_.Of).bind λt12=>(some t12) else (if (f_.Xh==7)=true then (Qax f_.Of).bind λt13=>(opt (t13==true) (Qax f_.Up) default).bind λt14=>(opt ((t13&&t14)==true) (QdP f_.Lo f_.Hi 0 1048576) default).bind λt15=>(some ((t13&&t14)&&t15)) else (if (f_.Xh==8)=true then (Qax f_.Of).bind λt16=>(opt (t16==true) (Qax f_.Up) default).bind λt17=>(some (t16&&t17)) else (some false)))))))))))
instance QvA:Spc1 prog 146 Qfb (λf_=>[Qe.ty f_]) tb:=.mk λ{f_ r} h=>by
 unfold Qfb at h
 refine Fe func146 ntmps146 λM0 M w0 hpl=>?_
 refine QyV [0] ?_
 have⟨_,_,_,_,_,_,h⟩:=bs3 h
 refine tIfs h [10,11] (λ_ h=>?_) (λ_ h=>?_)
 ·refine QyV [0] ?_
  exact QyZ h (·▸QyX hpl)
 refine QyY λ_ k0=>?_
 refine QyV [1,3] ?_
 refine Qy1 ?_
 refine QyV [1,2,3] ?_
 refine Qy0 h (λ_ h=>?_) (λ_ h=>?_)
 ·have⟨_,_,h⟩:=bs h
  refine QyV [3] ?_
  exact QyZ h (·▸QyX hpl)
 refine QyV [1,3,4] ?_
 refine Qy0 h (λ_ h=>?_) (λ_ h=>?_)
 ·have⟨_,_,_,_,h⟩:=bs2 h
  refine QyV [10] ?_
  exact QyZ h (·▸QyX hpl)
 refine QyV [1,3,4] ?_
 refine Qy0 h (λ_ h=>?_) (λ_ h=>?_)
 ·have⟨_,_,h⟩:=bs h
  refine QyV [5] ?_
  exact QyZ h (·▸QyX hpl)
 refine QyV [1,3,4] ?_
 refine Qy0 h (λ_ h=>?_) (λ_ h=>?_)
 ·have⟨_,_,h⟩:=bs h
  refine QyV [5] ?_
  exact QyZ h (·▸QyX hpl)
 refine QyV [1,3,4] ?_
 refine Qy0 h (λ_ h=>?_) (λ_ h=>?_)
 ·have⟨_,_,_,_,h⟩:=bs2 h
  refine QyV [15] ?_
  exact QyZ h (·▸QyX hpl)
 refine QyV [1,3,4] ?_
 refine Qy0 h (λ_ h=>?_) (λ_ h=>?_)
 ·have⟨_,_,_,_,h⟩:=bs2 h
  refine QyV [10] ?_
  exact QyZ h (·▸QyX hpl)
 refine QyV [1,3,4] ?_
 refine Qy0 h (λ_ h=>?_) (λ_ h=>?_)
 ·have⟨_,_,h⟩:=bs h
  refine QyV [3] ?_
  exact QyZ h (·▸QyX hpl)
 refine QyV [1,3,4] ?_
 refine Qy0 h (λ_ h=>?_) (λ_ h=>?_)
 ·have⟨_,_,_,_,_,_,h⟩:=bs3 h
  refine QyV [15] ?_
  exact QyZ h (·▸QyX hpl)
 refine QyV [1,4] ?_
 refine Qy0 h (λ_ h=>?_) (λ_ h=>?_)
 ·have⟨_,_,_,_,h⟩:=bs2 h
  refine QyV [8] ?_
  exact QyZ h (·▸QyX hpl)
 refine Qy2 ?_
 refine k0 ?_
 refine QyV [0] ?_
 exact QyZ h (·▸QyX hpl)
def QfK (k_:Qh):Option (Bool):=(Qax k_.Xi).bind λt0=>(opt (t0==true) (QdP k_.Lo k_.Hi 0 65536) default).bind λt1=>(opt (((t0&&t1)&&(decide ((k_.Xb.length:Int)<=10)))==true) (Qd9 k_.Xb (λx0=>Qfb x0)) default).bind λt2=>(some (((t0&&t1)&&(decide ((k_.Xb.length:Int)<=10)))&&t2))
instance Qwm:Spc1 prog 108 QfK (λk_=>[Qp.ty k_]) tb:=.mk λ{k_ r} h=>by
 unfold QfK at h
 refine Fe func108 ntmps108 λM0 M w0 hpl=>?_
 refine QyV [0] ?_
 have⟨_,_,_,_,_,_,h⟩:=bs3 h
 refine QyV [21] ?_
 exact QyZ h (·▸QyX hpl)
def Qg9 (x_:Qr) (c0_:(Qr->Option Bool)):Option (Bool):=(c0_ x_).bind λt0=>(some (!t0))
instance Qtn:Spc2 prog 147 Qg9 (λx_ c0_=>[Qo.ty x_,tptr (Qoq.cs c0_)]) tb:=.mk λ{x_ c0_ r} h=>by
 unfold Qg9 at h
 refine Fe func147 ntmps147 λM0 M w0 hpl=>?_
 refine QyV [0,3] ?_
 have⟨_,_,h⟩:=bs h
 refine QyV [4] ?_
 exact QyZ h (·▸QyX hpl)
def QcM (s_:(List Qr)) (f_:(Qr->Option Bool)):Option (Int):=(Qz (λ(s0:Int)=>((if (decide (s0<(s_.length:Int)))=true then (idx s_ s0).bind λt0=>(f_ t0).bind λt1=>(if t1=true then (some (.inr (.inr s0))) else (some (.inl (i64.wrap (s0+1))))) else (some (.inr (.inl ())))):Option ((Int)⊕((Unit)⊕(Int))))) (0:Int)).bind λe0=>(match e0 with | .inl _=>(some (-1:Int)) | .inr p0=>(some p0))
instance Qrp:Spc2 prog 114 QcM (λs_ f_=>[tsl Qo s_,Qoq.ty f_]) ti:=.mk λ{s_ f_ r} h=>by
 unfold QcM at h
 refine Fe func114 ntmps114 λM0 M w0 hpl=>?_
 refine QyV [1,2] ?_
 refine QyY λK0 k0=>?_
 refine QyV [1,2,3,4] ?_
 have⟨e0,h0,h⟩:=bs h
 have J0:∀(p0:Unit),(.inl p0)=e0->To M w0 19 [] [] K0:=by
  intro p0 he;subst he;simp only at h;refine k0 <|QyV [0] ?_;exact QyZ h (·▸QyX hpl)
 have J1:∀(p1:Int),(.inr p1)=e0->To M w0 19 [(4,ti p1)] [] (Ret prog f114 M0 [] w0 (λ_=>[]) (λ_=>ti r) .ret):=by
  intro p1 he;subst he;simp only at h;obtain rfl:=sj h;exact QyX hpl
 refine Qy1 <|Qzb h0 (λ(s0:Int)=>[(7,ti (s_.length:Int)),(8,ti s0),(0,tsl Qo s_),(1,Qoq.ty f_)]) (λ(s0:Int)=>[]) [0,1,2,3] ?_;clear h;intro s0 o K1 h ho k1;refine QyV [0,1,2,3,4] ?_;refine QyY λ_ k2=>Qy0 h (λ_ h=>?_) (λ_ h=>?_)
 ·refine Qy2 <|k2 <|QyY λ_ k3=>Qy1 <|QyV [1,3,4,5,6] ?_;have⟨_,_,_,_,h⟩:=bs2 h;refine QyV [5,6,7,8,9,10] ?_;refine Qy0 h (λ_ h=>?_) (λ_ h=>?_)
  ·refine QyV [1] ?_;refine Qzd ?_;exact Qy4 J1 (ho _ (sj h).symm) [0]
  refine Qy2 <|k3 <|Qy6 [1,4,5,6] ?_;exact Qy4 k1 ((sj h).symm) [1,0,2,3]
 refine Qy7 <|Qy4 J0 (ho _ (sj h).symm) []
def Qbd (s_:(List Qr)) (f_:(Qr->Option Bool)):Option (Bool):=(QcM s_ f_).bind λt0=>(some (decide (t0>=0)))
instance QpQ:Spc2 prog 84 Qbd (λs_ f_=>[tsl Qo s_,Qoq.ty f_]) tb:=.mk λ{s_ f_ r} h=>by
 unfold Qbd at h
 refine Fe func84 ntmps84 λM0 M w0 hpl=>?_
 refine QyV [1,2] ?_
 have⟨_,_,h⟩:=bs h
 refine QyV [4] ?_
 exact QyZ h (·▸QyX hpl)
def QeD (l_:(List Qr)) (right_:(Qr->Option Bool)):Option (Bool):=(Qbd l_ (λx0=>Qg9 x0 right_)).bind λt0=>(some (!t0))
instance QuL:Spc2 prog 109 QeD (λl_ right_=>[tsl Qo l_,Qoq.ty right_]) tb:=.mk λ{l_ right_ r} h=>by
 unfold QeD at h
 refine Fe func109 ntmps109 λM0 M w0 hpl=>?_
 refine QyV [0,2] ?_
 have⟨_,_,h⟩:=bs h
 refine QyV [4] ?_
 exact QyZ h (·▸QyX hpl)
def QeE (m_:Qac) (c0_:Int):Option (Bool):=(Qbw m_.a0 0 (i64.wrap (c0_ - 1))).bind λt0=>(opt (t0==true) (Qbw m_.a1 0 (i64.wrap (c0_ - 1))) default).bind λt1=>(some (t0&&t1))
instance QuM:Spc2 prog 150 QeE (λm_ c0_=>[Qaz.ty m_,tptr (rI.cs c0_)]) tb:=.mk λ{m_ c0_ r} h=>by
 unfold QeE at h
 refine Fe func150 ntmps150 λM0 M w0 hpl=>?_
 refine QyV [0,3] ?_
 have⟨_,_,_,_,h⟩:=bs2 h
 refine QyV [12] ?_
 exact QyZ h (·▸QyX hpl)
def Qf6 (x_:Qac) (c0_:(Qac->Option Bool)):Option (Bool):=(c0_ x_).bind λt0=>(some (!t0))
instance Qr3:Spc2 prog 178 Qf6 (λx_ c0_=>[Qaz.ty x_,tptr (Qou.cs c0_)]) tb:=.mk λ{x_ c0_ r} h=>by
 unfold Qf6 at h
 refine Fe func178 ntmps178 λM0 M w0 hpl=>?_
 refine QyV [0,3] ?_
 have⟨_,_,h⟩:=bs h
 refine QyV [4] ?_
 exact QyZ h (·▸QyX hpl)
def Qch (s_:(List Qac)) (f_:(Qac->Option Bool)):Option (Int):=(Qz (λ(s0:Int)=>((if (decide (s0<(s_.length:Int)))=true then (idx s_ s0).bind λt0=>(f_ t0).bind λt1=>(if t1=true then (some (.inr (.inr s0))) else (some (.inl (i64.wrap (s0+1))))) else (some (.inr (.inl ())))):Option ((Int)⊕((Unit)⊕(Int))))) (0:Int)).bind λe0=>(match e0 with | .inl _=>(some (-1:Int)) | .inr p0=>(some p0))
instance Qqg:Spc2 prog 189 Qch (λs_ f_=>[tsl Qaz s_,Qou.ty f_]) ti:=.mk λ{s_ f_ r} h=>by
 unfold Qch at h
 refine Fe func189 ntmps189 λM0 M w0 hpl=>?_
 refine QyV [1,2] ?_
 refine QyY λK0 k0=>?_
 refine QyV [1,2,3,4] ?_
 have⟨e0,h0,h⟩:=bs h
 have J0:∀(p0:Unit),(.inl p0)=e0->To M w0 19 [] [] K0:=by
  intro p0 he;subst he;simp only at h;refine k0 <|QyV [0] ?_;exact QyZ h (·▸QyX hpl)
 have J1:∀(p1:Int),(.inr p1)=e0->To M w0 19 [(4,ti p1)] [] (Ret prog f189 M0 [] w0 (λ_=>[]) (λ_=>ti r) .ret):=by
  intro p1 he;subst he;simp only at h;obtain rfl:=sj h;exact QyX hpl
 refine Qy1 <|Qzb h0 (λ(s0:Int)=>[(7,ti (s_.length:Int)),(8,ti s0),(0,tsl Qaz s_),(1,Qou.ty f_)]) (λ(s0:Int)=>[]) [0,1,2,3] ?_;clear h;intro s0 o K1 h ho k1;refine QyV [0,1,2,3,4] ?_;refine QyY λ_ k2=>Qy0 h (λ_ h=>?_) (λ_ h=>?_)
 ·refine Qy2 <|k2 <|QyY λ_ k3=>Qy1 <|QyV [1,3,4,5,6] ?_;have⟨_,_,_,_,h⟩:=bs2 h;refine QyV [5,6,7,8,9,10] ?_;refine Qy0 h (λ_ h=>?_) (λ_ h=>?_)
  ·refine QyV [1] ?_;refine Qzd ?_;exact Qy4 J1 (ho _ (sj h).symm) [0]
  refine Qy2 <|k3 <|Qy6 [1,4,5,6] ?_;exact Qy4 k1 ((sj h).symm) [1,0,2,3]
 refine Qy7 <|Qy4 J0 (ho _ (sj h).symm) []
def QbP (s_:(List Qac)) (f_:(Qac->Option Bool)):Option (Bool):=(Qch s_ f_).bind λt0=>(some (decide (t0>=0)))
instance Qo7:Spc2 prog 177 QbP (λs_ f_=>[tsl Qaz s_,Qou.ty f_]) tb:=.mk λ{s_ f_ r} h=>by
 unfold QbP at h
 refine Fe func177 ntmps177 λM0 M w0 hpl=>?_
 refine QyV [1,2] ?_
 have⟨_,_,h⟩:=bs h
 refine QyV [4] ?_
 exact QyZ h (·▸QyX hpl)
def QdQ (l_:(List Qac)) (right_:(Qac->Option Bool)):Option (Bool):=(QbP l_ (λx0=>Qf6 x0 right_)).bind λt0=>(some (!t0))
instance Qto:Spc2 prog 149 QdQ (λl_ right_=>[tsl Qaz l_,Qou.ty right_]) tb:=.mk λ{l_ right_ r} h=>by
 unfold QdQ at h
 refine Fe func149 ntmps149 λM0 M w0 hpl=>?_
 refine QyV [0,2] ?_
 have⟨_,_,h⟩:=bs h
 refine QyV [4] ?_
 exact QyZ h (·▸QyX hpl)
def QfL (x_:Qr):Option (Bool):=(Qax x_.Xi).bind λt0=>(opt (t0==true) (Qbw (x_.Xe.length:Int) 1 12) default).bind λt1=>(opt ((t0&&t1)==true) (Qc1 x_.Xe (λx0=>Qax x0)) default).bind λt2=>(opt ((((t0&&t1)&&t2)&&(decide ((x_.Xg.length:Int)<=32)))==true) (QdQ x_.Xg (λx0=>QeE x0 (x_.Xe.length:Int))) default).bind λt3=>(some ((((t0&&t1)&&t2)&&(decide ((x_.Xg.length:Int)<=32)))&&t3))
instance Qwn:Spc1 prog 110 QfL (λx_=>[Qo.ty x_]) tb:=.mk λ{x_ r} h=>by
 unfold QfL at h
 refine Fe func110 ntmps110 λM0 M w0 hpl=>?_
 refine QyV [0] ?_
 refine Qy5 [v1 3 (λv0=>box (rI.cs (0:Int)) v0),v1 3 (λv0=>box (rI.cs (x_.Xe.length:Int)) v0)] [4,5] [3,4] λm0=>?_
 refine Qy9 (λ_ _ H=>((H.Xk 0 rfl).add 0 rfl (λ_ _ _ h=>h.2)).pick [0,3]) ?_
 have⟨_,_,_,_,_,_,_,_,h⟩:=bs4 h
 refine QyV [24] ?_
 exact QyZ h (·▸QyX hpl)
def Qha (x_:Qm) (c0_:(Qm->Option Bool)):Option (Bool):=(c0_ x_).bind λt0=>(some (!t0))
instance Qtp:Spc2 prog 151 Qha (λx_ c0_=>[Ql.ty x_,tptr (Qor.cs c0_)]) tb:=.mk λ{x_ c0_ r} h=>by
 unfold Qha at h
 refine Fe func151 ntmps151 λM0 M w0 hpl=>?_
 refine QyV [0,3] ?_
 have⟨_,_,h⟩:=bs h
 refine QyV [4] ?_
 exact QyZ h (·▸QyX hpl)
def Qbh (s_:(List Qm)) (f_:(Qm->Option Bool)):Option (Int):=(Qz (λ(s0:Int)=>((if (decide (s0<(s_.length:Int)))=true then (idx s_ s0).bind λt0=>(f_ t0).bind λt1=>(if t1=true then (some (.inr (.inr s0))) else (some (.inl (i64.wrap (s0+1))))) else (some (.inr (.inl ())))):Option ((Int)⊕((Unit)⊕(Int))))) (0:Int)).bind λe0=>(match e0 with | .inl _=>(some (-1:Int)) | .inr p0=>(some p0))
instance Qkb:Spc2 prog 90 Qbh (λs_ f_=>[tsl Ql s_,Qor.ty f_]) ti:=.mk λ{s_ f_ r} h=>by
 unfold Qbh at h
 refine Fe func90 ntmps90 λM0 M w0 hpl=>?_
 refine QyV [1,2] ?_
 refine QyY λK0 k0=>?_
 refine QyV [1,2,3,4] ?_
 have⟨e0,h0,h⟩:=bs h
 have J0:∀(p0:Unit),(.inl p0)=e0->To M w0 19 [] [] K0:=by
  intro p0 he;subst he;simp only at h;refine k0 <|QyV [0] ?_;exact QyZ h (·▸QyX hpl)
 have J1:∀(p1:Int),(.inr p1)=e0->To M w0 19 [(4,ti p1)] [] (Ret prog f90 M0 [] w0 (λ_=>[]) (λ_=>ti r) .ret):=by
  intro p1 he;subst he;simp only at h;obtain rfl:=sj h;exact QyX hpl
 refine Qy1 <|Qzb h0 (λ(s0:Int)=>[(7,ti (s_.length:Int)),(8,ti s0),(0,tsl Ql s_),(1,Qor.ty f_)]) (λ(s0:Int)=>[]) [0,1,2,3] ?_;clear h;intro s0 o K1 h ho k1;refine QyV [0,1,2,3,4] ?_;refine QyY λ_ k2=>Qy0 h (λ_ h=>?_) (λ_ h=>?_)
 ·refine Qy2 <|k2 <|QyY λ_ k3=>Qy1 <|QyV [1,3,4,5,6] ?_;have⟨_,_,_,_,h⟩:=bs2 h;refine QyV [5,6,7,8,9,10] ?_;refine Qy0 h (λ_ h=>?_) (λ_ h=>?_)
  ·refine QyV [1] ?_;refine Qzd ?_;exact Qy4 J1 (ho _ (sj h).symm) [0]
  refine Qy2 <|k3 <|Qy6 [1,4,5,6] ?_;exact Qy4 k1 ((sj h).symm) [1,0,2,3]
 refine Qy7 <|Qy4 J0 (ho _ (sj h).symm) []
def QaP (s_:(List Qm)) (f_:(Qm->Option Bool)):Option (Bool):=(Qbh s_ f_).bind λt0=>(some (decide (t0>=0)))
instance Qjp:Spc2 prog 117 QaP (λs_ f_=>[tsl Ql s_,Qor.ty f_]) tb:=.mk λ{s_ f_ r} h=>by
 unfold QaP at h
 refine Fe func117 ntmps117 λM0 M w0 hpl=>?_
 refine QyV [1,2] ?_
 have⟨_,_,h⟩:=bs h
 refine QyV [4] ?_
 exact QyZ h (·▸QyX hpl)
def QeF (l_:(List Qm)) (right_:(Qm->Option Bool)):Option (Bool):=(QaP l_ (λx0=>Qha x0 right_)).bind λt0=>(some (!t0))
instance QuN:Spc2 prog 111 QeF (λl_ right_=>[tsl Ql l_,Qor.ty right_]) tb:=.mk λ{l_ right_ r} h=>by
 unfold QeF at h
 refine Fe func111 ntmps111 λM0 M w0 hpl=>?_
 refine QyV [0,2] ?_
 have⟨_,_,h⟩:=bs h
 refine QyV [4] ?_
 exact QyZ h (·▸QyX hpl)
def QfM (r_:Qm):Option (Bool):=(Qax r_.Xi).bind λt0=>(opt (t0==true) (Qax r_.Xh) default).bind λt1=>(opt (((t0&&t1)==true)&&((r_.A==([]:Str))==false)) (Qax r_.A) default).bind λt2=>(opt ((((t0&&t1)&&((r_.A==([]:Str))||t2))==true)&&((r_.B==([]:Str))==false)) (Qax r_.B) default).bind λt3=>(opt ((((t0&&t1)&&((r_.A==([]:Str))||t2))&&((r_.B==([]:Str))||t3))==true) (cat (r_.A.length+r_.B.length)) default).bind λ_=>(opt (((((t0&&t1)&&((r_.A==([]:Str))||t2))&&((r_.B==([]:Str))||t3))&&((r_.A++r_.B) !=([]:Str)))==true) (Qbw r_.N (-1048576) 1048576) default).bind λt4=>(some (((((t0&&t1)&&((r_.A==([]:Str))||t2))&&((r_.B==([]:Str))||t3))&&((r_.A++r_.B) !=([]:Str)))&&t4))
instance Qwo:Spc1 prog 112 QfM (λr_=>[Ql.ty r_]) tb:=.mk λ{r_ r} h=>by
 unfold QfM at h
 refine Fe func112 ntmps112 λM0 M w0 hpl=>?_
 refine QyV [0] ?_
 have⟨_,_,_,_,_,_,_,_,h⟩:=bs4 h
 have⟨_,_,_,_,h⟩:=bs2 h
 refine QyV [41] ?_
 exact QyZ h (·▸QyX hpl)
def QaU (word_:Str) (l_:(List AnyV)):Option (Str):=(Qbv ([]:Str) word_).bind λt0=>(Qz (λ(s0:Int×Str)=>((if (decide (s0.1<(l_.length:Int)))=true then (idx l_ s0.1).bind λt1=>(Qi9 s0.2 (32:Int)).bind λt2=>((if t1.asInt.2=true then (QlO t1.asInt.1).bind λt3=>(Qbv t2 t3).bind λt4=>(some t4) else ((if t1.asStr.2=true then (Qbv t2 t1.asStr.1).bind λt5=>(some t5) else (some t2))).bind λp0=>(some p0))).bind λp1=>(some (.inl ((i64.wrap (s0.1+1)),p1))) else (some (.inr s0.2))):Option ((Int×Str)⊕((Str))))) ((0:Int),t0)).bind λp2=>(Qic p2).bind λt6=>(cat (t6.length+([10]:Str).length)).bind λ_=>(some (t6++([10]:Str)))
instance Qeq:SpcS prog 153 (∀{word_:Str} {l_:(List AnyV)} {r:Str},QaU word_ l_=some r->FnOk prog 153 [tv (.string (sB word_)),tsl (rAny 3 9) l_] [glo] (λ_=>[]) (λ_=>tv (.string (sB r)))):=.mk λ{word_ l_ r} h=>by
 unfold QaU at h
 refine Fe func153 ntmps153 λM0 M w0 hpl=>?_
 refine QyV [1,2] ?_
 intro a w H
 refine sr mx [v1 0 (λv0=>bld ([]:Str) v0 nilV)] H (λ_=>.m [] [1] rfl rfl rfl (QpH bInfo)<|.n) λm0 a w H=>?_
 have H:=H.to [0,1,2] [_,_,_] [_,_] rfl rfl
 refine Qze H ?_
 have⟨t0,h0,h⟩:=bs h
 intro a w H
 refine sr mx [v1 1 (λv0=>bld t0 (m0 0) v0)] H (λ_=>.q 1 rfl<|.e [] [1] [2] rfl rfl rfl rfl (Qq Qhu (Qb4 h0) (.cons (.of z1)<|.cons (.of z0)<|.nil))<|.n) λm1 a w H=>?_
 have H:=H.t2_2 [2,4]
 refine Qze H ?_
 refine QyY λK0 k0=>?_
 refine QyV [0,1,2,3] ?_
 have⟨e0,h1,h⟩:=bs h
 have J0:∀(p0:Str) (y0:Value),p0=e0->To M w0 34 [(5,tv (m0 0))] [glo,bld p0 (m0 0) y0] K0:=by
  intro p0 y0 he;subst he;refine k0 ?_;have⟨t1,h2,_,h3,h⟩:=bs2 h;intro a w H;refine sr mx [] H (λ_=>.e [] [1] [] rfl rfl rfl rfl (Qq QsA (QoD h2) (.cons (.of z0)<|.nil))<|.o (Qpa z0 .k h3)<|.o (Qc z0)<|.n) λ_ a w H=>?_;have H:=H.t1_1 [2];refine Qze H ?_;exact QyZ h (·▸QyX hpl)
 refine Qy1 <|Qzf h1 (λ(s0:Int×Str) (y1:Value)=>[(12,tsl (rAny 3 9) l_),(13,ti (l_.length:Int)),(14,ti s0.1),(5,tv (m0 0))]) (λ(s0:Int×Str) (y1:Value)=>[glo,bld s0.2 (m0 0) y1]) (m1 1) [0,1,2,3] ?_;clear h;intro s0 y1 o K1 h ho k1;refine QyV [0,1,2,3,4] ?_;refine QyY λ_ k2=>Qy0 h (λ_ h=>?_) (λ_ h=>?_)
 ·refine Qy2 <|k2 <|QyY λK2 k3=>Qy1 ?_;have⟨t2,_,h⟩:=bs h;refine QyV [2,4,5,6,7] ?_;have⟨t3,h4,h⟩:=bs h;intro a w H;refine sr mx [v1 0 (λv0=>bld t3 (m0 0) v0)] H (λ_=>.e [] [1] [2] rfl rfl rfl rfl (Qq Qx0 (Qqc h4) (.cons (.of z4)<|.cons (.of .k)<|.nil))<|.n) λm2 a w H=>?_;have H:=H.t5_2 [1,2,3,4,5];refine Qze H ?_;refine QyV [0,2,3,4,5] ?_;refine Qy1 ?_;intro a w H;refine sr mx [] H (λ_=>.o (op_asI (by decide) tok3 ud3 z0)<|.o (QQ z0 rfl)<|.o (QQ z1 rfl)<|.n) λ_ a w H=>?_;have H:=H.to [1,2,3,4,5,6,7] [_,_,_,_,_,_,_] [_,_] rfl rfl;refine Qze H ?_;have⟨p1,h5,h⟩:=bs h;have J1:∀(y2:Value),To M w0 34 [(12,tsl (rAny 3 9) l_),(13,ti (l_.length:Int)),(14,ti s0.1),(5,tv (m0 0))] [glo,bld p1 (m0 0) y2] K2:=by
   intro y2;refine k3 <|Qy6 [1,2,3,4] ?_;exact Qy8 k1 y2 ((sj h).symm) [1,2,0,3]
  replace h:=h5;clear h5;refine Qy0 h (λ_ h=>?_) (λ_ h=>?_)
  ·refine QyV [0,4,5,6,7] ?_;have⟨_,h6,t4,h7,h⟩:=bs2 h;intro a w H;refine wr mx [v1 2 (λv0=>bld t4 (m0 0) v0)] H (λ_=>.q 0 rfl<|.u [0] rfl rfl ((Qq Qx1 (Qx2 h6) (.cons (.of z0)<|.nil)).glo)<|.e [] [1] [2] rfl rfl rfl rfl (Qq Qhu (Qb4 h7) (.cons (.of z6)<|.cons (.of z0)<|.nil))<|.n) λm3 a w H=>?_;have H:=H.to [4,5,6,7] [_,_,_,_] [_,_] rfl rfl;refine Qzh H ?_;obtain rfl:=sj h;exact Qy3 (J1 (m3 2)) [0,1,2,3]
  intro a w H;refine sr mx [] H (λ_=>.o (op_asS (by decide) tok9 ud9 z2)<|.o (QQ z0 rfl)<|.o (QQ z1 rfl)<|.n) λ_ a w H=>?_;have H:=H.t6_2 [1,2,6,7,8,9];refine Qze H ?_;have⟨p2,h8,h⟩:=bs h;have J2:∀(y3:Value),To M w0 34 [(12,tsl (rAny 3 9) l_),(13,ti (l_.length:Int)),(14,ti s0.1),(5,tv (m0 0))] [glo,bld p2 (m0 0) y3] K2:=by
   intro y3;obtain rfl:=sj h;exact Qy3 (J1 y3) [0,1,2,3]
  replace h:=h8;clear h8;refine Qy0 h (λ_ h=>?_) (λ_ h=>?_)
  ·refine QyV [0,3,4,5,6] ?_;have⟨t5,h9,h⟩:=bs h;intro a w H;refine wr mx [v1 1 (λv0=>bld t5 (m0 0) v0)] H (λ_=>.q 0 rfl<|.e [] [1] [2] rfl rfl rfl rfl (Qq Qhu (Qb4 h9) (.cons (.of z5)<|.cons (.of z0)<|.nil))<|.n) λm4 a w H=>?_;have H:=H.to [3,4,5,6] [_,_,_,_] [_,_] rfl rfl;refine Qzh H ?_;obtain rfl:=sj h;exact Qy3 (J2 (m4 1)) [0,1,2,3]
  refine Qy2 ?_;obtain rfl:=sj h;exact Qy3 (J2 (m2 0)) [2,3,4,5]
 refine Qy7 <|Qy8 J0 y1 (ho _ (sj h).symm) [4]
def Qhv (vals_:(List Str)):Option (Str):=(Qz (λ(s0:Int)=>((if (decide (s0<(vals_.length:Int)))=true then (idx vals_ s0).bind λt0=>(if (t0 !=([]:Str))=true then (some (.inr (.inr t0))) else (some (.inl (i64.wrap (s0+1))))) else (some (.inr (.inl ())))):Option ((Int)⊕((Unit)⊕(Str))))) (0:Int)).bind λe0=>(match e0 with | .inl _=>(some ([]:Str)) | .inr p0=>(some p0))
instance Qwp:Spc1 prog 182 Qhv (λvals_=>[tsl rS vals_]) (λr=>tv (.string (sB r))):=.mk λ{vals_ r} h=>by
 unfold Qhv at h
 refine Fe func182 ntmps182 λM0 M w0 hpl=>?_
 refine QyV [1] ?_
 refine QyV [0,1] ?_
 refine QyY λK0 k0=>?_
 refine QyV [0,1,2,3] ?_
 have⟨e0,h0,h⟩:=bs h
 have J0:∀(p0:Unit),(.inl p0)=e0->To M w0 18 [(3,tv (.string (sB ([]:Str))))] [] K0:=by
  intro p0 he;subst he;simp only at h;refine k0 <|QyV [1] ?_;exact QyZ h (·▸QyX hpl)
 have J1:∀(p1:Str),(.inr p1)=e0->To M w0 18 [(2,tv (.string (sB p1)))] [] (Ret prog f182 M0 [] w0 (λ_=>[]) (λ_=>tv (.string (sB r))) .ret):=by
  intro p1 he;subst he;simp only at h;obtain rfl:=sj h;exact QyX hpl
 refine Qy1 <|Qzb h0 (λ(s0:Int)=>[(6,tsl rS vals_),(7,ti (vals_.length:Int)),(8,ti s0),(3,tv (.string (sB ([]:Str))))]) (λ(s0:Int)=>[]) [0,1,2,3] ?_;clear h;intro s0 o K1 h ho k1;refine QyV [0,1,2,3,4] ?_;refine QyY λ_ k2=>Qy0 h (λ_ h=>?_) (λ_ h=>?_)
 ·refine Qy2 <|k2 <|QyY λ_ k3=>Qy1 ?_;have⟨_,_,h⟩:=bs h;refine QyV [2,4,5,6,7] ?_;refine QyV [2,3,4,5,6,7] ?_;refine Qy0 h (λ_ h=>?_) (λ_ h=>?_)
  ·refine QyV [1] ?_;refine Qzd ?_;exact Qy4 J1 (ho _ (sj h).symm) [0]
  refine Qy2 <|k3 <|Qy6 [1,4,5,6] ?_;exact Qy4 k1 ((sj h).symm) [1,2,0,3]
 refine Qy7 <|Qy4 J0 (ho _ (sj h).symm) [4]
def Qd3 (s_:Str):Option (Str):=(Qhv [s_,([45]:Str)]).bind λt0=>(some t0)
instance QkK:Spc1 prog 155 Qd3 (λs_=>[tv (.string (sB s_))]) (λr=>tv (.string (sB r))):=.mk λ{s_ r} h=>by
 unfold Qd3 at h
 refine Fe func155 ntmps155 λM0 M w0 hpl=>?_
 refine QyV [1] ?_
 have⟨_,_,h⟩:=bs h
 refine QyV [3] ?_
 exact QyZ h (·▸QyX hpl)
