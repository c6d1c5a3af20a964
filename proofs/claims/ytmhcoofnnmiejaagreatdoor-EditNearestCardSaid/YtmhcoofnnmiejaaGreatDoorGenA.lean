/- The walk. No condition. -/
import Derived.Test.YtmhcoofnnmiejaaGreatDoorLib
import Derived.Test.YtmhcoofnnmiejaaGreatDoorBaseI
set_option linter.all false
open List Go.Proofs.Tryz Go.IntKind
namespace Go.Proofs.YtmhcoofnnmiejaaGreatDoor
noncomputable section
open Go.Sim
set_option maxRecDepth 100000
set_option maxHeartbeats 4000000
def Qbe (c:Int) (a:Int) (b:Int):Option (Bool):=(some ((decide (c>=a))&&(decide (c<=b))))
instance QCn:Spc3 prog 144 Qbe (λd a b=>[ti d,ti a,ti b]) tb:=.mk λ{d a b r} h=>by
 unfold Qbe at h
 refine Fe func144 ntmps144 λe M f c=>?_
 refine Qa 28 ?_
 refine Qa 512 ?_
 exact Qp h (·▸Qn c)
def QbZ (a:Int):Option (Bool×Bool×Bool×Bool×Bool):=(some (((((((a==1)||(a==4))||(a==5))||(a==6))||(a==7))||(a==8)),((a==7)||(a==8)),((((((a==1)||(a==2))||(a==4))||(a==5))||(a==7))||(a==0)),(((((a==1)||(a==2))||(a==4))||(a==5))||(a==7)),(a==3)))
instance QFL:Spc1 prog 205 QbZ (λa=>[ti a]) (λr=>ttup [tb r.1,tb r.2.1,tb r.2.2.1,tb r.2.2.2.1,tb r.2.2.2.2]):=.mk λ{a r} h=>by
 unfold QbZ at h
 refine Fe func205 ntmps205 λc M d b=>?_
 refine Qa 64 ?_
 refine Qa 25165824 ?_
 refine Qa 896 ?_
 refine Qa 7864320 ?_
 refine Qa 63488 ?_
 exact Qp h (·▸Qn b)
def QeT (a:Str):Option (Str):=(if (a==([]:Str))=true then (some ([45]:Str)) else (some a))
instance QEW:Spc1 prog 178 QeT (λb=>[tv (.string (sB b))]) (λr=>tv (.string (sB r))):=.mk λ{b r} h=>by
 unfold QeT at h
 refine Fe func178 ntmps178 λc M d a=>?_
 refine Qa 4 ?_
 refine tIfs h 12 (λ_ h=>?_) λ_ h=>?_
 ·refine Qa 2 ?_
  exact Qp h (·▸Qn a)
 refine Qa 4 ?_
 exact Qp h (·▸Qn a)
def QcH (b:Qc) (a:Str):Option (Int):=(Qr (λ(s0:Int)=>((if (decide (s0<(b.Xa.length:Int)))=true then (idx b.Xa s0).bind λc=>(if (c.Xj==a)=true then (some (.inr (.inr s0))) else (some (.inl (i64.wrap (s0+1))))) else (some (.inr (.inl ())))):Option ((Int)⊕((Unit)⊕(Int))))) (0:Int)).bind λd=>(match d with | .inl _=>(some (-1:Int)) | .inr e=>(some e))
instance QFN:Spc2 prog 57 QcH (λd a=>[Qb.ty d,tv (.string (sB a))]) ti:=.mk λ{d a r} h=>by
 unfold QcH at h
 refine Fe func57 ntmps57 λt M j b=>?_
 refine Qa 18 ?_
 refine Qf λk l=>?_
 refine Qa 14 ?_
 have⟨e,h0,h⟩:=bs h
 have m:∀f,(.inl f)=e->To M j 22 [] [] k:=by
  intro f c;subst c;simp only at h;refine l <|Qa 2 ?_;exact Qp h (·▸Qn b)
 refine tJr (λg=>[(4,ti g)]) 1 (λ_=>[]) 0 (.inr ·=e) (λg c=>?_) λn=>?_
 ·subst c;simp only at h;obtain rfl:=sj h;exact Qn b
 refine Qk <|Qaf h0 (λs0=>[(5,ti s0)]) 65921 (λs0=>[]) 0 14 ?_;clear h;intro s0 o u h i p;refine Qf λ_ q=>Qa 480 ?_;refine Qo h (λ_ h=>?_) λ_ h=>?_
 ·refine Qu <|q <|Qf λ_ s=>Qk ?_;have⟨_,_,h⟩:=bs h;refine Qa 7424 ?_;refine Qo h (λ_ h=>?_) λ_ h=>?_
  ·refine Qa 4 ?_;refine QaA ?_;exact Qx n (i _ (sj h).symm) 2
  refine Qu <|s <|QJ 104 ?_;exact Qx p ((sj h).symm) 14
 refine QQ <|Qx m (i _ (sj h).symm) 0
def Qhx (b:Int) (a:(List QK)):Option ((List Bool)):=(mk b false).bind λc=>(Qr (λ(s0:Int×List Bool)=>(if (decide (s0.1<(a.length:Int)))=true then (idx a s0.1).bind λd=>((if (decide (d.B>=0))=true then (idx a s0.1).bind λe=>(setAt s0.2 e.B true).bind λf=>(some f) else (some s0.2))).bind λg=>(some (.inl ((i64.wrap (s0.1+1)),g))) else (some (.inr s0.2)))) ((0:Int),c)).bind λh=>(some h)
instance QE5:Spc2 prog 64 Qhx (λd e=>[ti d,tsl Qap e]) (tsl Qag):=.mk λ{d e r} h=>by
 unfold Qhx at h
 refine Fe func64 ntmps64 λy M i b=>?_
 refine Qa 12 ?_
 have⟨j,_,h⟩:=bs h
 refine QU [v1 1 (λv0=>own Qag 4 j v0)] [2] 44 λa=>?_
 refine Qf λk l=>?_
 refine Qa 30 ?_
 have⟨m,h0,h⟩:=bs h
 have n:∀c,c=m->To M i 29 [(5,tv (a 1))] [own Qag 4 c (a 1)] k:=by
  intro c p;subst p;refine l <|Qa 14 ?_;refine QaA ?_;refine Qan (by intro _ _ H;exact (H.Xn 1 rfl).pick [0]) ?_;obtain rfl:=sj h;exact Qn b
 refine Qk <|Qaf h0 (λs0=>[(6,ti s0.1)]) 82433 (λs0=>[own Qag 4 s0.2 (a 1)]) 1 26 ?_;clear h;intro s0 o z h q s;refine Qf λ_ t=>Qa 240 ?_;refine Qo h (λ_ h=>?_) λ_ h=>?_
 ·refine Qu <|t <|Qf λu v=>Qk ?_;have⟨_,_,h⟩:=bs h;refine Qa 1856 ?_;have⟨w,f,h⟩:=bs h;refine tJ0 [] 16259 [own Qag 4 w (a 1)] 1 u ?_ λg=>?_
  ·refine v <|QJ 56 ?_;exact Qx s ((sj h).symm) 14
  replace h:=f;clear f;refine Qo h (λ_ h=>?_) λ_ h=>?_
  ·have⟨_,_,x,_,h⟩:=bs2 h;refine QaG [v0 (own Qag 4 x (a 1))] [8] 3586 λA=>?_;obtain rfl:=sj h;exact QN g 28
  refine Qu ?_;obtain rfl:=sj h;exact QN g 28
 refine QQ <|Qx n (q _ (sj h).symm) 8
def QgS (a:(List Int)) (b:(List Int)):Option (Bool):=(Qr (λ(s0:Int)=>((if ((decide (s0<(a.length:Int)))&&(decide (s0<(b.length:Int))))=true then (idx a s0).bind λc=>(idx b s0).bind λd=>(if (c !=d)=true then (idx a s0).bind λe=>(idx b s0).bind λf=>(some (.inr (.inr (decide (e<f))))) else (some (.inl (i64.wrap (s0+1))))) else (some (.inr (.inl ())))):Option ((Int)⊕((Unit)⊕(Bool))))) (0:Int)).bind λg=>(match g with | .inl _=>(some false) | .inr h=>(some h))
instance QCw:Spc2 prog 130 QgS (λc d=>[tsl rI c,tsl rI d]) tb:=.mk λ{c d r} h=>by
 unfold QgS at h
 refine Fe func130 ntmps130 λt M j a=>?_
 refine Qa 12 ?_
 refine Qf λk l=>?_
 refine Qa 14 ?_
 have⟨e,h0,h⟩:=bs h
 have m:∀f,(.inl f)=e->To M j 36 [] [] k:=by
  intro f b;subst b;simp only at h;refine l <|Qa 2 ?_;exact Qp h (·▸Qn a)
 refine tJr (λg=>[(4,tb g)]) 1 (λ_=>[]) 0 (.inr ·=e) (λg b=>?_) λn=>?_
 ·subst b;simp only at h;obtain rfl:=sj h;exact Qn a
 refine Qk <|Qaf h0 (λs0=>[(5,ti s0)]) 65921 (λs0=>[]) 0 14 ?_;clear h;intro s0 o u h i p;refine Qf λ_ q=>Qa 15360 ?_;refine Qo h (λ_ h=>?_) λ_ h=>?_
 ·refine Qu <|q <|Qf λ_ s=>Qk ?_;have⟨_,_,_,_,h⟩:=bs2 h;refine Qa 14848 ?_;refine Qo h (λ_ h=>?_) λ_ h=>?_
  ·have⟨_,_,_,_,h⟩:=bs2 h;refine Qa 1024 ?_;refine QaA ?_;exact Qx n (i _ (sj h).symm) 2
  refine Qu <|s <|QJ 104 ?_;exact Qx p ((sj h).symm) 14
 refine QQ <|Qx m (i _ (sj h).symm) 0
def Qbs (a:(List Qi)) (b:(Qi->Option Bool)):Option (Int):=(Qr (λ(s0:Int)=>((if (decide (s0<(a.length:Int)))=true then (idx a s0).bind λc=>(b c).bind λd=>(if d=true then (some (.inr (.inr s0))) else (some (.inl (i64.wrap (s0+1))))) else (some (.inr (.inl ())))):Option ((Int)⊕((Unit)⊕(Int))))) (0:Int)).bind λe=>(match e with | .inl _=>(some (-1:Int)) | .inr f=>(some f))
instance Qta:Spc2 prog 131 Qbs (λc d=>[tsl QE c,QpI.ty d]) ti:=.mk λ{c d r} h=>by
 unfold Qbs at h
 refine Fe func131 ntmps131 λt M j a=>?_
 refine Qa 12 ?_
 refine Qf λk l=>?_
 refine Qa 60 ?_
 have⟨e,h0,h⟩:=bs h
 have m:∀f,(.inl f)=e->To M j 19 [] [] k:=by
  intro f b;subst b;simp only at h;refine l <|Qa 2 ?_;exact Qp h (·▸Qn a)
 refine tJr (λg=>[(4,ti g)]) 1 (λ_=>[]) 0 (.inr ·=e) (λg b=>?_) λn=>?_
 ·subst b;simp only at h;obtain rfl:=sj h;exact Qn a
 refine Qk <|Qaf h0 (λs0=>[(8,ti s0)]) 10551426 (λs0=>[]) 0 30 ?_;clear h;intro s0 o u h i p;refine Qa 62 ?_;refine Qf λ_ q=>Qo h (λ_ h=>?_) λ_ h=>?_
 ·refine Qu <|q <|Qf λ_ s=>Qk <|Qa 244 ?_;have⟨_,_,_,_,h⟩:=bs2 h;refine Qa 4032 ?_;refine Qo h (λ_ h=>?_) λ_ h=>?_
  ·refine Qa 4 ?_;refine QaA ?_;exact Qx n (i _ (sj h).symm) 2
  refine Qu <|s <|QJ 228 ?_;exact Qx p ((sj h).symm) 16875781
 refine QQ <|Qx m (i _ (sj h).symm) 0
def Qbo (a:(List Qi)) (b:(Qi->Option Bool)):Option (Bool):=(Qbs a b).bind λc=>(some (decide (c>=0)))
instance Qrh:Spc2 prog 99 Qbo (λb c=>[tsl QE b,QpI.ty c]) tb:=.mk λ{b c r} h=>by
 unfold Qbo at h
 refine Fe func99 ntmps99 λd M e a=>?_
 refine Qa 12 ?_
 have⟨_,_,h⟩:=bs h
 refine Qa 32 ?_
 exact Qp h (·▸Qn a)
def Qhy (b:QA) (a:(QA->Option Bool)):Option (Bool):=(a b).bind λc=>(some (!c))
instance Qws:Spc2 prog 187 Qhy (λc a=>[Qq.ty c,tptr (Qmw.cs a)]) tb:=.mk λ{c a r} h=>by
 unfold Qhy at h
 refine Fe func187 ntmps187 λd M e b=>?_
 refine Qa 18 ?_
 have⟨_,_,h⟩:=bs h
 refine Qa 32 ?_
 exact Qp h (·▸Qn b)
def Qck (a:(List QA)) (b:(QA->Option Bool)):Option (Int):=(Qr (λ(s0:Int)=>((if (decide (s0<(a.length:Int)))=true then (idx a s0).bind λc=>(b c).bind λd=>(if d=true then (some (.inr (.inr s0))) else (some (.inl (i64.wrap (s0+1))))) else (some (.inr (.inl ())))):Option ((Int)⊕((Unit)⊕(Int))))) (0:Int)).bind λe=>(match e with | .inl _=>(some (-1:Int)) | .inr f=>(some f))
instance Qte:Spc2 prog 116 Qck (λc d=>[tsl Qq c,Qmw.ty d]) ti:=.mk λ{c d r} h=>by
 unfold Qck at h
 refine Fe func116 ntmps116 λt M j a=>?_
 refine Qa 12 ?_
 refine Qf λk l=>?_
 refine Qa 60 ?_
 have⟨e,h0,h⟩:=bs h
 have m:∀f,(.inl f)=e->To M j 19 [] [] k:=by
  intro f b;subst b;simp only at h;refine l <|Qa 2 ?_;exact Qp h (·▸Qn a)
 refine tJr (λg=>[(4,ti g)]) 1 (λ_=>[]) 0 (.inr ·=e) (λg b=>?_) λn=>?_
 ·subst b;simp only at h;obtain rfl:=sj h;exact Qn a
 refine Qk <|Qaf h0 (λs0=>[(8,ti s0)]) 10551426 (λs0=>[]) 0 30 ?_;clear h;intro s0 o u h i p;refine Qa 62 ?_;refine Qf λ_ q=>Qo h (λ_ h=>?_) λ_ h=>?_
 ·refine Qu <|q <|Qf λ_ s=>Qk <|Qa 244 ?_;have⟨_,_,_,_,h⟩:=bs2 h;refine Qa 4032 ?_;refine Qo h (λ_ h=>?_) λ_ h=>?_
  ·refine Qa 4 ?_;refine QaA ?_;exact Qx n (i _ (sj h).symm) 2
  refine Qu <|s <|QJ 228 ?_;exact Qx p ((sj h).symm) 16875781
 refine QQ <|Qx m (i _ (sj h).symm) 0
def Qcs (a:(List QA)) (b:(QA->Option Bool)):Option (Bool):=(Qck a b).bind λc=>(some (decide (c>=0)))
instance Qri:Spc2 prog 186 Qcs (λb c=>[tsl Qq b,Qmw.ty c]) tb:=.mk λ{b c r} h=>by
 unfold Qcs at h
 refine Fe func186 ntmps186 λd M e a=>?_
 refine Qa 12 ?_
 have⟨_,_,h⟩:=bs h
 refine Qa 32 ?_
 exact Qp h (·▸Qn a)
def QeV (b:(List QA)) (a:(QA->Option Bool)):Option (Bool):=(Qcs b (λx0=>Qhy x0 a)).bind λc=>(some (!c))
instance QyM:Spc2 prog 163 QeV (λc a=>[tsl Qq c,Qmw.ty a]) tb:=.mk λ{c a r} h=>by
 unfold QeV at h
 refine Fe func163 ntmps163 λd M e b=>?_
 refine Qa 10 ?_
 have⟨_,_,h⟩:=bs h
 refine Qa 32 ?_
 exact Qp h (·▸Qn b)
def Qhf (b:Qe) (a:(Qe->Option Bool)):Option (Bool):=(a b).bind λc=>(some (!c))
instance Qvj:Spc2 prog 215 Qhf (λc a=>[Qd.ty c,tptr (Qmv.cs a)]) tb:=.mk λ{c a r} h=>by
 unfold Qhf at h
 refine Fe func215 ntmps215 λd M e b=>?_
 refine Qa 18 ?_
 have⟨_,_,h⟩:=bs h
 refine Qa 32 ?_
 exact Qp h (·▸Qn b)
def Qca (a:(List Qe)) (b:(Qe->Option Bool)):Option (Int):=(Qr (λ(s0:Int)=>((if (decide (s0<(a.length:Int)))=true then (idx a s0).bind λc=>(b c).bind λd=>(if d=true then (some (.inr (.inr s0))) else (some (.inl (i64.wrap (s0+1))))) else (some (.inr (.inl ())))):Option ((Int)⊕((Unit)⊕(Int))))) (0:Int)).bind λe=>(match e with | .inl _=>(some (-1:Int)) | .inr f=>(some f))
instance Qr9:Spc2 prog 91 Qca (λc d=>[tsl Qd c,Qmv.ty d]) ti:=.mk λ{c d r} h=>by
 unfold Qca at h
 refine Fe func91 ntmps91 λt M j a=>?_
 refine Qa 12 ?_
 refine Qf λk l=>?_
 refine Qa 60 ?_
 have⟨e,h0,h⟩:=bs h
 have m:∀f,(.inl f)=e->To M j 19 [] [] k:=by
  intro f b;subst b;simp only at h;refine l <|Qa 2 ?_;exact Qp h (·▸Qn a)
 refine tJr (λg=>[(4,ti g)]) 1 (λ_=>[]) 0 (.inr ·=e) (λg b=>?_) λn=>?_
 ·subst b;simp only at h;obtain rfl:=sj h;exact Qn a
 refine Qk <|Qaf h0 (λs0=>[(8,ti s0)]) 10551426 (λs0=>[]) 0 30 ?_;clear h;intro s0 o u h i p;refine Qa 62 ?_;refine Qf λ_ q=>Qo h (λ_ h=>?_) λ_ h=>?_
 ·refine Qu <|q <|Qf λ_ s=>Qk <|Qa 244 ?_;have⟨_,_,_,_,h⟩:=bs2 h;refine Qa 4032 ?_;refine Qo h (λ_ h=>?_) λ_ h=>?_
  ·refine Qa 4 ?_;refine QaA ?_;exact Qx n (i _ (sj h).symm) 2
  refine Qu <|s <|QJ 228 ?_;exact Qx p ((sj h).symm) 16875781
 refine QQ <|Qx m (i _ (sj h).symm) 0
def Qch (a:(List Qe)) (b:(Qe->Option Bool)):Option (Bool):=(Qca a b).bind λc=>(some (decide (c>=0)))
instance QqK:Spc2 prog 214 Qch (λb c=>[tsl Qd b,Qmv.ty c]) tb:=.mk λ{b c r} h=>by
 unfold Qch at h
 refine Fe func214 ntmps214 λd M e a=>?_
 refine Qa 12 ?_
 have⟨_,_,h⟩:=bs h
 refine Qa 32 ?_
 exact Qp h (·▸Qn a)
def Qet (b:(List Qe)) (a:(Qe->Option Bool)):Option (Bool):=(Qch b (λx0=>Qhf x0 a)).bind λc=>(some (!c))
instance Qw8:Spc2 prog 190 Qet (λc a=>[tsl Qd c,Qmv.ty a]) tb:=.mk λ{c a r} h=>by
 unfold Qet at h
 refine Fe func190 ntmps190 λd M e b=>?_
 refine Qa 10 ?_
 have⟨_,_,h⟩:=bs h
 refine Qa 32 ?_
 exact Qp h (·▸Qn b)
def QhA (b:Qm) (a:(Qm->Option Bool)):Option (Bool):=(a b).bind λc=>(some (!c))
instance Qwu:Spc2 prog 192 QhA (λc a=>[Qs.ty c,tptr (Qmu.cs a)]) tb:=.mk λ{c a r} h=>by
 unfold QhA at h
 refine Fe func192 ntmps192 λd M e b=>?_
 refine Qa 18 ?_
 have⟨_,_,h⟩:=bs h
 refine Qa 32 ?_
 exact Qp h (·▸Qn b)
def Qcl (a:(List Qm)) (b:(Qm->Option Bool)):Option (Int):=(Qr (λ(s0:Int)=>((if (decide (s0<(a.length:Int)))=true then (idx a s0).bind λc=>(b c).bind λd=>(if d=true then (some (.inr (.inr s0))) else (some (.inl (i64.wrap (s0+1))))) else (some (.inr (.inl ())))):Option ((Int)⊕((Unit)⊕(Int))))) (0:Int)).bind λe=>(match e with | .inl _=>(some (-1:Int)) | .inr f=>(some f))
instance Qk1:Spc2 prog 49 Qcl (λc d=>[tsl Qs c,Qmu.ty d]) ti:=.mk λ{c d r} h=>by
 unfold Qcl at h
 refine Fe func49 ntmps49 λt M j a=>?_
 refine Qa 12 ?_
 refine Qf λk l=>?_
 refine Qa 60 ?_
 have⟨e,h0,h⟩:=bs h
 have m:∀f,(.inl f)=e->To M j 19 [] [] k:=by
  intro f b;subst b;simp only at h;refine l <|Qa 2 ?_;exact Qp h (·▸Qn a)
 refine tJr (λg=>[(4,ti g)]) 1 (λ_=>[]) 0 (.inr ·=e) (λg b=>?_) λn=>?_
 ·subst b;simp only at h;obtain rfl:=sj h;exact Qn a
 refine Qk <|Qaf h0 (λs0=>[(8,ti s0)]) 10551426 (λs0=>[]) 0 30 ?_;clear h;intro s0 o u h i p;refine Qa 62 ?_;refine Qf λ_ q=>Qo h (λ_ h=>?_) λ_ h=>?_
 ·refine Qu <|q <|Qf λ_ s=>Qk <|Qa 244 ?_;have⟨_,_,_,_,h⟩:=bs2 h;refine Qa 4032 ?_;refine Qo h (λ_ h=>?_) λ_ h=>?_
  ·refine Qa 4 ?_;refine QaA ?_;exact Qx n (i _ (sj h).symm) 2
  refine Qu <|s <|QJ 228 ?_;exact Qx p ((sj h).symm) 16875781
 refine QQ <|Qx m (i _ (sj h).symm) 0
def Qbp (a:(List Qm)) (b:(Qm->Option Bool)):Option (Bool):=(Qcl a b).bind λc=>(some (decide (c>=0)))
instance Qrj:Spc2 prog 136 Qbp (λb c=>[tsl Qs b,Qmu.ty c]) tb:=.mk λ{b c r} h=>by
 unfold Qbp at h
 refine Fe func136 ntmps136 λd M e a=>?_
 refine Qa 12 ?_
 have⟨_,_,h⟩:=bs h
 refine Qa 32 ?_
 exact Qp h (·▸Qn a)
def QeX (b:(List Qm)) (a:(Qm->Option Bool)):Option (Bool):=(Qbp b (λx0=>QhA x0 a)).bind λc=>(some (!c))
instance QyO:Spc2 prog 165 QeX (λc a=>[tsl Qs c,Qmu.ty a]) tb:=.mk λ{c a r} h=>by
 unfold QeX at h
 refine Fe func165 ntmps165 λd M e b=>?_
 refine Qa 10 ?_
 have⟨_,_,h⟩:=bs h
 refine Qa 32 ?_
 exact Qp h (·▸Qn b)
def QcU (b:Int) (a:Int) (c:Int) (e:Int) (d:(List QI)):Option ((List QI)):=((if (e !=0)=true then (rm (d.length+[(QI.mk b a c e)].length)).bind λ_=>(some (d++[(QI.mk b a c e)])) else (some d))).bind λf=>(some f)
instance QfM:SpcS prog 135 (∀{f d b a c g e r},QcU b a c g e=some r->FnOk prog 135 [ti b,ti a,ti c,ti g,tv f] [box (rVal.cs d) f,own Qai 207 e d] (λv=>[box (rVal.cs v) f,own Qai 207 r v]) (λ_=>ttup [])):=.mk λ{f d b a c g e r} h=>by
 unfold QcU at h
 refine Fe func135 ntmps135 λm M k j=>?_
 refine Qa 252 ?_
 have⟨n,h0,h⟩:=bs h
 have l:∀i,To M k 19 [(4,tv f)] [own Qai 207 n i,box (rVal.cs i) f] (Ret prog f135 m [box (rVal.cs d) f,own Qai 207 e d] k (λv=>[box (rVal.cs v) f,own Qai 207 r v]) (λ_=>ttup []) .normal):=by
  intro i;obtain rfl:=sj h;exact Qll i [1,0] j
 replace h:=h0;clear h0;refine Qo h (λ_ h=>?_) λ_ h=>?_
 ·have⟨_,_,h⟩:=bs h;refine QaG [v1 7 (λv0=>own Qai 207 (e++[(QI.mk b a c g)]) v0),v1 7 (λv0=>box (rVal.cs v0) f)] [8,9] 16640 λo=>?_;obtain rfl:=sj h;exact QN (l (o 7)) 4
 refine Qu ?_;obtain rfl:=sj h;refine Qan (λ_ _ H=>(H.pick [5]).Xk [1,0] rfl) ?_;exact QN (l d) 2
def QaS (a:(List Qaq)):Option (Int):=(Qr (λ(s0:Int)=>((if (decide (s0<(a.length:Int)))=true then (idx a s0).bind λb=>(if b.is=true then (some (.inr (.inr b.code))) else (some (.inl (i64.wrap (s0+1))))) else (some (.inr (.inl ())))):Option ((Int)⊕((Unit)⊕(Int))))) (0:Int)).bind λc=>(match c with | .inl _=>(some (0:Int)) | .inr d=>(some d))
instance Qp2:Spc1 prog 138 QaS (λc=>[tsl QbH c]) ti:=.mk λ{c r} h=>by
 unfold QaS at h
 refine Fe func138 ntmps138 λt M i a=>?_
 refine Qa 4 ?_
 refine Qf λj k=>?_
 refine Qa 14 ?_
 have⟨d,h0,h⟩:=bs h
 have l:∀e,(.inl e)=d->To M i 16 [] [] j:=by
  intro e b;subst b;simp only at h;refine k <|Qa 2 ?_;exact Qp h (·▸Qn a)
 refine tJr (λf=>[(2,ti f)]) 1 (λ_=>[]) 0 (.inr ·=d) (λf b=>?_) λm=>?_
 ·subst b;simp only at h;obtain rfl:=sj h;exact Qn a
 refine Qk <|Qaf h0 (λs0=>[(7,ti s0)]) 16770 (λs0=>[]) 0 14 ?_;clear h;intro s0 o u h g n;refine Qa 30 ?_;refine Qf λ_ p=>Qo h (λ_ h=>?_) λ_ h=>?_
 ·refine Qu <|p <|Qf λ_ q=>Qk ?_;have⟨s,_,h⟩:=bs h;refine QU [v1 2 (λv0=>box (QbH.cs (Qaq.mk false (0:Int))) v0),v1 2 (λv0=>box (QbH.cs s) v0)] [3,4] 232 λv=>?_;refine Q1 (λ_ _ H=>((H.Xl 0 rfl).add 0 rfl (λ_ _ _ h=>h.2)).pick [0,3,4,5]) ?_;refine Qa 124 ?_;refine Qo h (λ_ h=>?_) λ_ h=>?_
  ·refine Qa 8 ?_;refine QaA ?_;exact Qx m (g _ (sj h).symm) 2
  refine Qu <|q <|QJ 100 ?_;exact Qx n ((sj h).symm) 33541
 refine QQ <|Qx l (g _ (sj h).symm) 0
def Qh3 (b:QA) (a:Str):Option (Bool):=(some (b.Xj==a))
instance QBl:Spc2 prog 117 Qh3 (λc a=>[Qq.ty c,tptr (rS.cs a)]) tb:=.mk λ{c a r} h=>by
 unfold Qh3 at h
 refine Fe func117 ntmps117 λd M e b=>?_
 refine Qa 18 ?_
 refine Qa 32 ?_
 exact Qp h (·▸Qn b)
def QcE (b:Qc) (a:Str):Option (Int):=(Qck b.Xa (λx0=>Qh3 x0 a)).bind λc=>(some c)
instance Qjt:Spc2 prog 77 QcE (λc a=>[Qb.ty c,tv (.string (sB a))]) ti:=.mk λ{c a r} h=>by
 unfold QcE at h
 refine Fe func77 ntmps77 λd M e b=>?_
 refine Qa 6 ?_
 have⟨_,_,h⟩:=bs h
 refine Qa 32 ?_
 exact Qp h (·▸Qn b)
def QhC (b:Qc) (c:Int):Option (Int):=(idx b.Xa c).bind λa=>(QcE b a.Xj).bind λd=>(opt (((a.Xb.length:Int)==0)==false) (idx a.Xb 0) default).bind λe=>(QaS [(Qaq.mk (decide (d<c)) 7),(Qaq.mk (((a.Xb.length:Int)==0)||(e.Xi !=0)) 11)]).bind λf=>(some f)
instance QqL:Spc2 prog 139 QhC (λb c=>[Qb.ty b,ti c]) ti:=.mk λ{b c r} h=>by
 unfold QhC at h
 refine Fe func139 ntmps139 λe M f a=>?_
 refine Qa 18 ?_
 have⟨d,_,h⟩:=bs h
 refine QU [v1 5 (λv0=>box (Qq.cs zz1) v0),v1 5 (λv0=>box (Qq.cs d) v0)] [6,7] 448 λg=>?_
 refine Q1 (λ_ _ H=>((H.Xl 0 rfl).add 0 rfl (λ_ _ _ h=>h.2)).pick [0,3,4]) ?_
 have⟨_,_,_,_,_,_,h⟩:=bs3 h
 refine Qa 8388608 ?_
 exact Qp h (·▸Qn a)
def Qhj (b:Qe) (a:Str):Option (Bool):=(some (b.Xj==a))
instance Qz8:Spc2 prog 92 Qhj (λc a=>[Qd.ty c,tptr (rS.cs a)]) tb:=.mk λ{c a r} h=>by
 unfold Qhj at h
 refine Fe func92 ntmps92 λd M e b=>?_
 refine Qa 18 ?_
 refine Qa 32 ?_
 exact Qp h (·▸Qn b)
def Qa4 (b:QA) (a:Str):Option (Int):=(Qca b.Xb (λx0=>Qhj x0 a)).bind λc=>(some c)
instance Qi5:Spc2 prog 53 Qa4 (λc a=>[Qq.ty c,tv (.string (sB a))]) ti:=.mk λ{c a r} h=>by
 unfold Qa4 at h
 refine Fe func53 ntmps53 λd M e b=>?_
 refine Qa 6 ?_
 have⟨_,_,h⟩:=bs h
 refine Qa 32 ?_
 exact Qp h (·▸Qn b)
def Qh4 (b:QL) (a:QL):Option (Bool):=(some (b.Xj==a.Xj))
instance QBm:Spc2 prog 171 Qh4 (λc a=>[QV.ty c,tptr (QV.cs a)]) tb:=.mk λ{c a r} h=>by
 unfold Qh4 at h
 refine Fe func171 ntmps171 λd M e b=>?_
 refine Qa 18 ?_
 refine Qa 64 ?_
 exact Qp h (·▸Qn b)
def Qdw (c:Qc) (a:Int) (b:Int):Option (Qe×Bool):=(opt ((((decide (a<0))||(decide (a>=(c.Xa.length:Int))))||(decide (b<0)))==false) (idx c.Xa a) default).bind λd=>(if ((((decide (a<0))||(decide (a>=(c.Xa.length:Int))))||(decide (b<0)))||(decide (b>=(d.Xb.length:Int))))=true then (some (zz0,false)) else (idx c.Xa a).bind λe=>(idx e.Xb b).bind λf=>(some (f,true)))
instance Qny:Spc3 prog 81 Qdw (λd b a=>[Qb.ty d,ti b,ti a]) (λr=>ttup [Qd.ty r.1,tb r.2]):=.mk λ{d b a r} h=>by
 unfold Qdw at h
 refine Fe func81 ntmps81 λg M i c=>?_
 refine QU [v1 1 (λv0=>box (Qd.cs zz0) v0)] [2] 102 λe=>?_
 have⟨_,_,h⟩:=bs h
 refine tIfs h 520093696 (λ_ h=>?_) λ_ h=>?_
 ·refine QU [v0 (box (Qd.cs zz0) (e 1))] [2] 36 λj=>?_
  exact Qp h (·▸Qn c)
 have⟨_,_,f,_,h⟩:=bs2 h
 refine QU [v0 (box (Qd.cs f) (e 1))] [10] 9216 λk=>?_
 exact Qp h (·▸Qn c)
def Qe0 (a:QaJ):Option (Int):=(QaS [(Qaq.mk (decide (a.field>0)) 13)]).bind λb=>(some b)
instance Qnz:Spc1 prog 261 Qe0 (λb=>[Qa3.ty b]) ti:=.mk λ{b r} h=>by
 unfold Qe0 at h
 refine Fe func261 ntmps261 λc M d a=>?_
 refine Qa 2 ?_
 have⟨_,_,h⟩:=bs h
 refine Qa 128 ?_
 exact Qp h (·▸Qn a)
def QeM (d:Qc->Int->Int->Option (Int)) (e:Qc) (a:Int) (b:Int):Option (Int):=(Qdw e a b).bind λc=>(if (!c.2)=true then (some (-1:Int)) else (if (((c.1).Xi==7)||((c.1).Xi==8))=true then (idx e.Xa a).bind λi=>(Qa4 i (c.1).Up).bind λf=>(Qdw e a f).bind λg=>(if ((g.2&&(decide (f<b)))&&((g.1).Xi==1))=true then (d e a f).bind λj=>(some j) else (some (-1:Int))) else (if ((c.1).Xi !=1)=true then (some (-1:Int)) else (QcE e (c.1).Of).bind λh=>(if (decide (h<a))=true then (some h) else (some (-1:Int))))))
def QlC:Nat->Qc->Int->Int->Option (Int)
 | 0=>λ_ _ _=>none
 | n+1=>QeM (QlC n)
def Qe2 (a:QaJ):Option (Int):=(idx (a.x).Xa a.kind).bind λc=>(Qa4 c (a.f).Of).bind λb=>(Qdw a.x a.kind b).bind λd=>(QaS [(Qaq.mk (((a.f).Of !=([]:Str))&&(((decide (b<0))||(decide (b>=a.field)))||((d.1).Xi !=4))) 12)]).bind λe=>(some e)
instance QnB:Spc1 prog 263 Qe2 (λb=>[Qa3.ty b]) ti:=.mk λ{b r} h=>by
 unfold Qe2 at h
 refine Fe func263 ntmps263 λd M e a=>?_
 refine Qa 2 ?_
 have⟨_,_,_,_,h⟩:=bs2 h
 refine Qa 12288 ?_
 have⟨c,_,h⟩:=bs h
 refine QU [v1 9 (λv0=>box (Qd.cs zz0) v0),v1 9 (λv0=>box (Qd.cs c.1) v0)] [10,11] 13312 λf=>?_
 refine Q1 (λ_ _ H=>((H.Xl 0 rfl).add 0 rfl (λ_ _ _ h=>h.2)).pick [0,3,4]) ?_
 have⟨_,_,h⟩:=bs h
 refine Qa 8388608 ?_
 exact Qp h (·▸Qn a)
def Qfz (b:Qm) (a:QaJ):Option (Bool):=(some (b.Xj==(a.f).Of))
instance Qwx:Spc2 prog 265 Qfz (λc a=>[Qs.ty c,tptr (Qa3.cs a)]) tb:=.mk λ{c a r} h=>by
 unfold Qfz at h
 refine Fe func265 ntmps265 λd M e b=>?_
 refine Qa 18 ?_
 refine Qa 128 ?_
 exact Qp h (·▸Qn b)
def Qe3 (a:QaJ):Option (Int):=(Qbp (a.x).Xd (λx0=>Qfz x0 a)).bind λb=>(QaS [(Qaq.mk (!b) 12)]).bind λc=>(some c)
instance QnC:Spc1 prog 264 Qe3 (λb=>[Qa3.ty b]) ti:=.mk λ{b r} h=>by
 unfold Qe3 at h
 refine Fe func264 ntmps264 λc M d a=>?_
 refine Qa 2 ?_
 have⟨_,_,h⟩:=bs h
 refine Qa 64 ?_
 have⟨_,_,h⟩:=bs h
 refine Qa 64 ?_
 exact Qp h (·▸Qn a)
def QeQ (a:Str) (b:(List Int)) (c:QA):Option (Int):=(if (a==([]:Str))=true then (some (0:Int)) else (Qa4 c a).bind λd=>(idx b d).bind λe=>(some e))
instance Qk3:Spc3 prog 118 QeQ (λa b c=>[tv (.string (sB a)),tptr ((rSl rI).cs b),tptr (Qq.cs c)]) ti:=.mk λ{a b c r} h=>by
 unfold QeQ at h
 refine Fe func118 ntmps118 λe M f d=>?_
 refine Qa 28 ?_
 refine tIfs h 60 (λ_ h=>?_) λ_ h=>?_
 ·refine Qa 2 ?_
  exact Qp h (·▸Qn d)
 have⟨_,_,_,_,h⟩:=bs2 h
 refine Qa 128 ?_
 exact Qp h (·▸Qn d)
def QoM (a:Int) (b:Int):Option (Int×Int):=(some ((u32.wrap (ishr .u64 (u64.wrap ((u64.wrap a) * (u64.wrap b))) (32:Int))),(u32.wrap (u64.wrap ((u64.wrap a) * (u64.wrap b))))))
instance QFV:Spc2 prog 119 QoM (λb c=>[tv (.int .u32 b),tv (.int .u32 c)]) (λr=>ttup [tv (.int .u32 r.1),tv (.int .u32 r.2)]):=.mk λ{b c r} h=>by
 unfold QoM at h
 refine Fe func119 ntmps119 λd M e a=>?_
 refine Qa 24 ?_
 refine Qa 64 ?_ (λ_=>by refine' pr 1 ?_;refine' rx (.p rfl (QhU Qr6 Qr7 z0)) 1 ?_;refine' rx (.p rfl (QhU Qr6 Qr7 z0)) 2 ?_;exact rnn)
 refine Qa 192 ?_ (λ_=>by refine' pr 1 ?_;refine' rx (.p rfl (Qkz z0 .k (by decide))) 0 ?_;refine' rx (.p rfl (QhU Qr7 Qr6 z0)) 1 ?_;refine' rx (.p rfl (QhU Qr7 Qr6 z0)) 2 ?_;exact rnn)
 exact Qp h (·▸Qn a)
def Qgw (b:Int) (a:Qe):Option (Bool):=(opt (((decide (b>=0))&&(decide (b<(a.Xf.length:Int))))==true) (idx a.Xf b) default).bind λc=>(some (((decide (b>=0))&&(decide (b<(a.Xf.length:Int))))&&(decide (c>0))))
instance QlE:Spc2 prog 48 Qgw (λc a=>[ti c,tptr (Qd.cs a)]) tb:=.mk λ{c a r} h=>by
 unfold Qgw at h
 refine Fe func48 ntmps48 λd M e b=>?_
 refine Qa 12 ?_
 have⟨_,_,h⟩:=bs h
 refine Qa 262144 ?_
 exact Qp h (·▸Qn b)
