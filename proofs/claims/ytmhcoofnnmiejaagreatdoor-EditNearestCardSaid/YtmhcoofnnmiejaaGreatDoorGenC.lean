/- The walk. No condition. -/
import Derived.Test.YtmhcoofnnmiejaaGreatDoorLib
import Derived.Test.YtmhcoofnnmiejaaGreatDoorBaseI
set_option linter.all false
open List Go.Proofs.Tryz Go.IntKind
namespace Go.Proofs.YtmhcoofnnmiejaaGreatDoor
noncomputable section
open Go.Sim
set_option maxRecDepth 100000
set_option maxHeartbeats 4000000
def Qfi (b:Int) (a:Int):Option (Int):=((if (decide (b<0))=true then (some (i64.wrap (0 - (i64.wrap (b+1))))) else (some b))).bind λc=>(if (decide (a<1))=true then (some (0:Int)) else (nz a).bind λ_=>(some (Int.tmod c a)))
instance QCk:Spc2 prog 61 Qfi (λc a=>[ti c,ti a]) ti:=.mk λ{c a r} h=>by
 unfold Qfi at h
 refine Fe func61 ntmps61 λj M e b=>?_
 refine Qa 12 ?_
 refine Qf λf g=>?_
 refine Qa 28 ?_
 have⟨i,h0,h⟩:=bs h
 have d:To M e 15 [(0,ti i),(1,ti a)] [] f:=by
  refine g <|tIfs h 28 (λ_ h=>?_) λ_ h=>?_
  ·refine Qa 2 ?_;exact Qp h (·▸Qn b)
  have⟨_,_,h⟩:=bs h;refine Qa 16 ?_;exact Qp h (·▸Qn b)
 replace h:=h0;clear h0;refine Qo h (λ_ h=>?_) λ_ h=>?_
 ·refine QJ 80 ?_;obtain rfl:=sj h;exact QN d 6
 refine Qu ?_;obtain rfl:=sj h;exact QN d 12
def Qd3 (c:(List Int)) (b:Int) (a:Int):Option (Int):=(if ((decide (b<0))||(decide (b>=(c.length:Int))))=true then (some (0:Int)) else (idx c b).bind λd=>(Qfi d a).bind λe=>(some e))
instance Quc:Spc3 prog 30 Qd3 (λc d a=>[tsl rI c,ti d,ti a]) ti:=.mk λ{c d a r} h=>by
 unfold Qd3 at h
 refine Fe func30 ntmps30 λe M f b=>?_
 refine Qa 28 ?_
 refine tIfs h 3840 (λ_ h=>?_) λ_ h=>?_
 ·refine Qa 2 ?_
  exact Qp h (·▸Qn b)
 have⟨_,_,_,_,h⟩:=bs2 h
 refine Qa 128 ?_
 exact Qp h (·▸Qn b)
def QS (a:QR) (b:Int):Option (Int×QR):=(Qd3 a.L (i64.wrap ((i64.wrap (a.I+1)) - 1)) b).bind λc=>(some (c,(QR.mk a.L (i64.wrap (a.I+1)))))
instance Qa9:SpcS prog 27 (∀{a b c r},QS b c=some r->FnOk prog 27 [tv a,ti c] [box (QC.cs b) a] (λ_=>[box (QC.cs r.2) a]) (λ_=>ti r.1)):=.mk λ{a b c r} h=>by
 unfold QS at h
 refine Fe func27 ntmps27 λe M f d=>?_
 refine Qa 12 ?_
 refine QU [v0 (box (QC.cs (QR.mk b.L (i64.wrap (b.I+1)))) a)] [8] 768 λg=>?_
 have⟨_,_,h⟩:=bs h
 refine Qa 12288 ?_
 exact Qp h (·▸QaQ undef [0] d)
def QgK (b:QA):Option (Int):=(Qr (λ(s0:Int)=>((if (decide (s0<(b.Xb.length:Int)))=true then (idx b.Xb s0).bind λa=>(if ((((a.Xi !=0)&&(a.Xi !=1))&&(a.Xi !=6))&&(a.Xi !=7))=true then (some (.inr (.inr s0))) else (some (.inl (i64.wrap (s0+1))))) else (some (.inr (.inl ())))):Option ((Int)⊕((Unit)⊕(Int))))) (0:Int)).bind λc=>(match c with | .inl _=>(some (-1:Int)) | .inr d=>(some d))
instance QCl:Spc1 prog 58 QgK (λc=>[Qq.ty c]) ti:=.mk λ{c r} h=>by
 unfold QgK at h
 refine Fe func58 ntmps58 λs M i a=>?_
 refine Qa 2 ?_
 refine Qf λj k=>?_
 refine Qa 6 ?_
 have⟨d,h0,h⟩:=bs h
 have l:∀e,(.inl e)=d->To M i 33 [] [] j:=by
  intro e b;subst b;simp only at h;refine k <|Qa 2 ?_;exact Qp h (·▸Qn a)
 refine tJr (λf=>[(2,ti f)]) 1 (λ_=>[]) 0 (.inr ·=d) (λf b=>?_) λm=>?_
 ·subst b;simp only at h;obtain rfl:=sj h;exact Qn a
 refine Qk <|Qaf h0 (λs0=>[(3,ti s0)]) 385 (λs0=>[]) 0 6 ?_;clear h;intro s0 o t h g n;refine Qf λ_ p=>Qa 224 ?_;refine Qo h (λ_ h=>?_) λ_ h=>?_
 ·refine Qu <|p <|Qf λ_ q=>Qk ?_;have⟨_,_,h⟩:=bs h;refine Qa 1664 ?_;refine Qa 212992 ?_;refine Qo h (λ_ h=>?_) λ_ h=>?_
  ·refine Qa 4 ?_;refine QaA ?_;exact Qx m (g _ (sj h).symm) 2
  refine Qu <|q <|QJ 40 ?_;exact Qx n ((sj h).symm) 6
 refine QQ <|Qx l (g _ (sj h).symm) 0
def Qfk (a:Int):Option (Bool):=(some ((decide (a>=97))&&(decide (a<=122))))
instance QCo:Spc1 prog 203 Qfk (λb=>[tv (.int .u8 b)]) tb:=.mk λ{b r} h=>by
 unfold Qfk at h
 refine Fe func203 ntmps203 λc M d a=>?_
 refine Qa 4 ?_
 refine Qa 128 ?_
 exact Qp h (·▸Qn a)
def Qi0 (a:Int):Option (Bool):=(some ((decide (a>=48))&&(decide (a<=57))))
instance QET:Spc1 prog 204 Qi0 (λb=>[tv (.int .u8 b)]) tb:=.mk λ{b r} h=>by
 unfold Qi0 at h
 refine Fe func204 ntmps204 λc M d a=>?_
 refine Qa 4 ?_
 refine Qa 128 ?_
 exact Qp h (·▸Qn a)
def Qbw (a:Str):Option (Bool):=(opt (((decide ((a.length:Int)<1))||(decide ((a.length:Int)>12)))==false) (idx a 0) default).bind λc=>(opt (((decide ((a.length:Int)<1))||(decide ((a.length:Int)>12)))==false) (Qfk (c.toNat:Int)) default).bind λd=>(if (((decide ((a.length:Int)<1))||(decide ((a.length:Int)>12)))||(!d))=true then (some false) else (Qr (λ(s0:Int)=>((if (decide (s0<(a.length:Int)))=true then (idx a s0).bind λe=>(Qfk (e.toNat:Int)).bind λb=>(opt ((!b)==true) (idx a s0) default).bind λf=>(opt ((!b)==true) (Qi0 (f.toNat:Int)) default).bind λg=>(if ((!b)&&(!g))=true then (some (.inr (.inr false))) else (some (.inl (i64.wrap (s0+1))))) else (some (.inr (.inl ())))):Option ((Int)⊕((Unit)⊕(Bool))))) (0:Int)).bind λh=>(match h with | .inl _=>(some true) | .inr i=>(some i)))
instance QCp:Spc1 prog 172 Qbw (λc=>[tv (.string (sB c))]) tb:=.mk λ{c r} h=>by
 unfold Qbw at h
 refine Fe func172 ntmps172 λs M i a=>?_
 refine Qa 4 ?_
 have⟨_,_,_,_,h⟩:=bs2 h
 refine tIfs h 49152 (λ_ h=>?_) λ_ h=>?_
 ·refine Qa 2 ?_
  exact Qp h (·▸Qn a)
 refine Qf λj k=>?_
 refine Qa 10 ?_
 have⟨d,h0,h⟩:=bs h
 have l:∀e,(.inl e)=d->To M i 36 [] [] j:=by
  intro e b;subst b;simp only at h;refine k <|Qa 2 ?_;exact Qp h (·▸Qn a)
 refine tJr (λf=>[(2,tb f)]) 1 (λ_=>[]) 0 (.inr ·=d) (λf b=>?_) λm=>?_
 ·subst b;simp only at h;obtain rfl:=sj h;exact Qn a
 refine Qk <|Qaf h0 (λs0=>[(3,ti s0)]) 385 (λs0=>[]) 0 6 ?_;clear h;intro s0 o t h g n;refine Qf λ_ p=>Qa 112 ?_;refine Qo h (λ_ h=>?_) λ_ h=>?_
 ·refine Qu <|p <|Qf λ_ q=>Qk ?_;have⟨_,_,_,_,_,_,_,_,h⟩:=bs4 h;refine Qa 53248 ?_;refine Qo h (λ_ h=>?_) λ_ h=>?_
  ·refine Qa 2 ?_;refine QaA ?_;exact Qx m (g _ (sj h).symm) 2
  refine Qu <|q <|QJ 40 ?_;exact Qx n ((sj h).symm) 6
 refine QQ <|Qx l (g _ (sj h).symm) 0
def QdU (c:Int) (d:Int) (a:Int) (b:Int):Option (Bool):=(some (((decide (c>=a))&&(decide (c<=d)))&&(decide (d<=b))))
instance QFK:Spc4 prog 173 QdU (λc d a b=>[ti c,ti d,ti a,ti b]) tb:=.mk λ{c d a b r} h=>by
 unfold QdU at h
 refine Fe func173 ntmps173 λf M g e=>?_
 refine Qa 60 ?_
 refine Qa 16384 ?_
 exact Qp h (·▸Qn e)
def Qcg:Option ((List Str)):=(some [([107,101,121]:Str),([114,101,102]:Str),([110,117,109]:Str),([112,105,99,107]:Str),([100,97,121]:Str),([115,116,101,112]:Str),([115,117,109]:Str),([115,104,97,114,101]:Str),([99,111,112,121]:Str)])
instance QEV:Spc0 prog 208 (Qcg) ([]) (tsl rS):=.mk λ{r} h=>by
 unfold Qcg at h
 refine Fe func208 ntmps208 λb M c a=>?_
 refine Qa 0 ?_
 refine Qa 4 ?_
 exact Qp h (·▸Qn a)
def Qbi (b:QA) (a:Str):Option (Int):=(Qr (λ(s0:Int)=>((if (decide (s0<(b.Xb.length:Int)))=true then (idx b.Xb s0).bind λc=>(if (c.Xj==a)=true then (some (.inr (.inr s0))) else (some (.inl (i64.wrap (s0+1))))) else (some (.inr (.inl ())))):Option ((Int)⊕((Unit)⊕(Int))))) (0:Int)).bind λd=>(match d with | .inl _=>(some (-1:Int)) | .inr e=>(some e))
instance QEZ:Spc2 prog 56 Qbi (λd a=>[Qq.ty d,tv (.string (sB a))]) ti:=.mk λ{d a r} h=>by
 unfold Qbi at h
 refine Fe func56 ntmps56 λt M j b=>?_
 refine Qa 18 ?_
 refine Qf λk l=>?_
 refine Qa 14 ?_
 have⟨e,h0,h⟩:=bs h
 have m:∀f,(.inl f)=e->To M j 22 [] [] k:=by
  intro f c;subst c;simp only at h;refine l <|Qa 2 ?_;exact Qp h (·▸Qn b)
 refine tJr (λg=>[(4,ti g)]) 1 (λ_=>[]) 0 (.inr ·=e) (λg c=>?_) λn=>?_
 ·subst c;simp only at h;obtain rfl:=sj h;exact Qn b
 refine Qk <|Qaf h0 (λs0=>[(5,ti s0)]) 65921 (λs0=>[]) 0 14 ?_;clear h;intro s0 o u h i p;refine Qf λ_ q=>Qa 480 ?_;refine Qo h (λ_ h=>?_) λ_ h=>?_
 ·refine Qu <|q <|Qf λ_ s=>Qk ?_;have⟨_,_,h⟩:=bs h;refine Qa 7424 ?_;refine Qo h (λ_ h=>?_) λ_ h=>?_
  ·refine Qa 4 ?_;refine QaA ?_;exact Qx n (i _ (sj h).symm) 2
  refine Qu <|s <|QJ 104 ?_;exact Qx p ((sj h).symm) 14
 refine QQ <|Qx m (i _ (sj h).symm) 0
def QcI (b:Int) (a:Int):Option (Bool):=(some ((decide (b>=0))&&(decide (b<a))))
instance Qp0:Spc2 prog 97 QcI (λc a=>[ti c,tptr (rI.cs a)]) tb:=.mk λ{c a r} h=>by
 unfold QcI at h
 refine Fe func97 ntmps97 λd M e b=>?_
 refine Qa 12 ?_
 refine Qa 256 ?_
 exact Qp h (·▸Qn b)
def Qel (a:Qi) (b:(Int->Option Bool)):Option (Bool):=(b a.From).bind λc=>(opt ((!c)==false) (b a.To) default).bind λd=>(some (((((((!c)||(!d))||(decide (a.Lo<0)))||(decide (a.Lo>a.Hi)))||(decide (a.Hi>1000)))||(decide (a.Cost<(-1000:Int))))||(decide (a.Cost>1000))))
instance QCy:Spc2 prog 98 Qel (λc a=>[QE.ty c,tptr (QhY.cs a)]) tb:=.mk λ{c a r} h=>by
 unfold Qel at h
 refine Fe func98 ntmps98 λd M e b=>?_
 refine Qa 18 ?_
 have⟨_,_,_,_,h⟩:=bs2 h
 refine Qa 1099511627776 ?_
 exact Qp h (·▸Qn b)
def Qdu (a:(List Int)) (b:(List Int)):Option (Bool):=(if ((a.length:Int) !=(b.length:Int))=true then (some false) else (Qr (λ(s0:Int)=>((if (decide (s0<(a.length:Int)))=true then (idx a s0).bind λc=>(idx b s0).bind λd=>(if (c !=d)=true then (some (.inr (.inr false))) else (some (.inl (i64.wrap (s0+1))))) else (some (.inr (.inl ())))):Option ((Int)⊕((Unit)⊕(Bool))))) (0:Int)).bind λe=>(match e with | .inl _=>(some true) | .inr f=>(some f)))
instance Qz4:Spc2 prog 15 Qdu (λc d=>[tsl rI c,tsl rI d]) tb:=.mk λ{c d r} h=>by
 unfold Qdu at h
 refine Fe func15 ntmps15 λt M j a=>?_
 refine Qa 12 ?_
 refine tIfs h 224 (λ_ h=>?_) λ_ h=>?_
 ·refine Qa 2 ?_
  exact Qp h (·▸Qn a)
 refine Qf λk l=>?_
 refine Qa 26 ?_
 have⟨e,h0,h⟩:=bs h
 have m:∀f,(.inl f)=e->To M j 26 [] [] k:=by
  intro f b;subst b;simp only at h;refine l <|Qa 2 ?_;exact Qp h (·▸Qn a)
 refine tJr (λg=>[(4,tb g)]) 1 (λ_=>[]) 0 (.inr ·=e) (λg b=>?_) λn=>?_
 ·subst b;simp only at h;obtain rfl:=sj h;exact Qn a
 refine Qk <|Qaf h0 (λs0=>[(5,ti s0)]) 65921 (λs0=>[]) 0 14 ?_;clear h;intro s0 o u h i p;refine Qf λ_ q=>Qa 240 ?_;refine Qo h (λ_ h=>?_) λ_ h=>?_
 ·refine Qu <|q <|Qf λ_ s=>Qk ?_;have⟨_,_,_,_,h⟩:=bs2 h;refine Qa 14848 ?_;refine Qo h (λ_ h=>?_) λ_ h=>?_
  ·refine Qa 2 ?_;refine QaA ?_;exact Qx n (i _ (sj h).symm) 2
  refine Qu <|s <|QJ 104 ?_;exact Qx p ((sj h).symm) 14
 refine QQ <|Qx m (i _ (sj h).symm) 0
def QbJ (c:Int) (a:Int) (b:Int):Option (Bool):=(some ((decide (c>=a))&&(decide (c<=b))))
instance QBd:Spc3 prog 162 QbJ (λd a b=>[ti d,ti a,ti b]) tb:=.mk λ{d a b r} h=>by
 unfold QbJ at h
 refine Fe func162 ntmps162 λe M f c=>?_
 refine Qa 28 ?_
 refine Qa 512 ?_
 exact Qp h (·▸Qn c)
def QeW (a:Int):Option (Bool):=(some ((decide (a>=97))&&(decide (a<=122))))
instance QyN:Spc1 prog 210 QeW (λb=>[tv (.int .u8 b)]) tb:=.mk λ{b r} h=>by
 unfold QeW at h
 refine Fe func210 ntmps210 λc M d a=>?_
 refine Qa 4 ?_
 refine Qa 128 ?_
 exact Qp h (·▸Qn a)
def Qc1 (a:(List Int)) (b:(Int->Option Bool)):Option (Int):=(Qr (λ(s0:Int)=>((if (decide (s0<(a.length:Int)))=true then (idx a s0).bind λc=>(b c).bind λd=>(if d=true then (some (.inr (.inr s0))) else (some (.inl (i64.wrap (s0+1))))) else (some (.inr (.inl ())))):Option ((Int)⊕((Unit)⊕(Int))))) (0:Int)).bind λe=>(match e with | .inl _=>(some (-1:Int)) | .inr f=>(some f))
instance Qtf:Spc2 prog 226 Qc1 (λc d=>[tsl (rInt .u8) c,QpK.ty d]) ti:=.mk λ{c d r} h=>by
 unfold Qc1 at h
 refine Fe func226 ntmps226 λt M j a=>?_
 refine Qa 12 ?_
 refine Qf λk l=>?_
 refine Qa 60 ?_
 have⟨e,h0,h⟩:=bs h
 have m:∀f,(.inl f)=e->To M j 19 [] [] k:=by
  intro f b;subst b;simp only at h;refine l <|Qa 2 ?_;exact Qp h (·▸Qn a)
 refine tJr (λg=>[(4,ti g)]) 1 (λ_=>[]) 0 (.inr ·=e) (λg b=>?_) λn=>?_
 ·subst b;simp only at h;obtain rfl:=sj h;exact Qn a
 refine Qk <|Qaf h0 (λs0=>[(8,ti s0)]) 10551426 (λs0=>[]) 0 30 ?_;clear h;intro s0 o u h i p;refine Qa 62 ?_;refine Qf λ_ q=>Qo h (λ_ h=>?_) λ_ h=>?_
 ·refine Qu <|q <|Qf λ_ s=>Qk <|Qa 244 ?_;have⟨_,_,_,_,h⟩:=bs2 h;refine Qa 4032 ?_;refine Qo h (λ_ h=>?_) λ_ h=>?_
  ·refine Qa 4 ?_;refine QaA ?_;exact Qx n (i _ (sj h).symm) 2
  refine Qu <|s <|QJ 228 ?_;exact Qx p ((sj h).symm) 16875781
 refine QQ <|Qx m (i _ (sj h).symm) 0
def Qct (a:(List Int)) (b:(Int->Option Bool)):Option (Bool):=(Qc1 a b).bind λc=>(some (decide (c>=0)))
instance QjW:Spc2 prog 211 Qct (λb c=>[tsl (rInt .u8) b,QpK.ty c]) tb:=.mk λ{b c r} h=>by
 unfold Qct at h
 refine Fe func211 ntmps211 λd M e a=>?_
 refine Qa 12 ?_
 have⟨_,_,h⟩:=bs h
 refine Qa 32 ?_
 exact Qp h (·▸Qn a)
def Qi4 (a:Int):Option (Bool):=(some ((decide (a>=48))&&(decide (a<=57))))
instance Qz5:Spc1 prog 213 Qi4 (λb=>[tv (.int .u8 b)]) tb:=.mk λ{b r} h=>by
 unfold Qi4 at h
 refine Fe func213 ntmps213 λc M d a=>?_
 refine Qa 4 ?_
 refine Qa 128 ?_
 exact Qp h (·▸Qn a)
def QiC (a:Int):Option (Bool):=(QeW a).bind λb=>(opt ((!b)==true) (Qi4 a) default).bind λc=>(some ((!b)&&(!c)))
instance Qnx:Spc1 prog 212 QiC (λb=>[tv (.int .u8 b)]) tb:=.mk λ{b r} h=>by
 unfold QiC at h
 refine Fe func212 ntmps212 λc M d a=>?_
 refine Qa 4 ?_
 have⟨_,_,_,_,h⟩:=bs2 h
 refine Qa 512 ?_
 exact Qp h (·▸Qn a)
def QaI (a:Str):Option (Bool):=(QbJ (a.length:Int) 1 12).bind λb=>(opt ((!b)==false) (idx a 0) default).bind λc=>(opt ((!b)==false) (QeW (c.toNat:Int)) default).bind λd=>(if ((!b)||(!d))=true then (some false) else (Qct (Qab a) (λx0=>QiC x0)).bind λe=>(some (!e)))
instance QBe:Spc1 prog 188 QaI (λb=>[tv (.string (sB b))]) tb:=.mk λ{b r} h=>by
 unfold QaI at h
 refine Fe func188 ntmps188 λc M d a=>?_
 refine Qa 4 ?_
 have⟨_,_,_,_,_,_,h⟩:=bs3 h
 refine tIfs h 3072 (λ_ h=>?_) λ_ h=>?_
 ·refine Qa 2 ?_
  exact Qp h (·▸Qn a)
 have⟨_,_,h⟩:=bs h
 refine Qa 32 ?_ (λ_=>by refine' pr 1 ?_;refine' rx (.p rfl (op_s2b ud9 QpS ud5 z0)) 3 ?_;exact rnn)
 exact Qp h (·▸Qn a)
def QeY (b:Qar) (a:Int):Option (Bool):=(QbJ b.a0 0 (i64.wrap (a - 1))).bind λc=>(opt (c==true) (QbJ b.a1 0 (i64.wrap (a - 1))) default).bind λd=>(some (c&&d))
instance QyP:Spc2 prog 195 QeY (λc a=>[QaR.ty c,tptr (rI.cs a)]) tb:=.mk λ{c a r} h=>by
 unfold QeY at h
 refine Fe func195 ntmps195 λd M e b=>?_
 refine Qa 18 ?_
 have⟨_,_,_,_,h⟩:=bs2 h
 refine Qa 8192 ?_
 exact Qp h (·▸Qn b)
def Qh2 (a:(List Str)):Option (Str):=(Qr (λ(s0:Int)=>((if (decide (s0<(a.length:Int)))=true then (idx a s0).bind λb=>(if (b !=([]:Str))=true then (some (.inr (.inr b))) else (some (.inl (i64.wrap (s0+1))))) else (some (.inr (.inl ())))):Option ((Int)⊕((Unit)⊕(Str))))) (0:Int)).bind λc=>(match c with | .inl _=>(some ([]:Str)) | .inr d=>(some d))
instance QBj:Spc1 prog 225 Qh2 (λa=>[tsl rS a]) (λr=>tv (.string (sB r))):=.mk λ{a r} h=>by
 unfold Qh2 at h
 refine Fe func225 ntmps225 λs M i b=>?_
 refine Qa 4 ?_
 refine Qa 6 ?_
 refine Qf λj k=>?_
 refine Qa 30 ?_
 have⟨d,h0,h⟩:=bs h
 have l:∀e,(.inl e)=d->To M i 18 [(3,tv (.string (sB ([]:Str))))] [] j:=by
  intro e c;subst c;simp only at h;refine k <|Qa 4 ?_;exact Qp h (·▸Qn b)
 refine tJr (λf=>[(2,tv (.string (sB f)))]) 1 (λ_=>[]) 0 (.inr ·=d) (λf c=>?_) λm=>?_
 ·subst c;simp only at h;obtain rfl:=sj h;exact Qn b
 refine Qk <|Qaf h0 (λs0=>[(8,ti s0),(3,tv (.string (sB ([]:Str))))]) 2113922 (λs0=>[]) 0 30 ?_;clear h;intro s0 o t h g n;refine Qa 62 ?_;refine Qf λ_ p=>Qo h (λ_ h=>?_) λ_ h=>?_
 ·refine Qu <|p <|Qf λ_ q=>Qk ?_;have⟨_,_,h⟩:=bs h;refine Qa 488 ?_;refine Qa 504 ?_;refine Qo h (λ_ h=>?_) λ_ h=>?_
  ·refine Qa 4 ?_;refine QaA ?_;exact Qx m (g _ (sj h).symm) 2
  refine Qu <|q <|QJ 228 ?_;exact Qx n ((sj h).symm) 16810757
 refine QQ <|Qx l (g _ (sj h).symm) 32
def Qem (a:Str):Option (Str):=(Qh2 [a,([45]:Str)]).bind λb=>(some b)
instance Qlm:Spc1 prog 200 Qem (λb=>[tv (.string (sB b))]) (λr=>tv (.string (sB r))):=.mk λ{b r} h=>by
 unfold Qem at h
 refine Fe func200 ntmps200 λc M d a=>?_
 refine Qa 4 ?_
 have⟨_,_,h⟩:=bs h
 refine Qa 16 ?_
 exact Qp h (·▸Qn a)
def QcM {S:Type} (Y:S->Int×Qm->Option (S⊕S)) (b:S) (a:List Qm):Option (S⊕S):=(Qr (λ(s0:Int×S)=>((if (decide (s0.1>=0))=true then (idx a s0.1).bind λc=>(Y s0.2 (s0.1,c)).bind λd=>(match d with | .inl s3=>(some (.inl (i64.wrap (s0.1 - 1),s3))) | .inr s3=>(some (.inr (.inr s3)))) else (some (.inr (.inl s0.2)))):Option ((Int×S)⊕(S⊕S)))) ((i64.wrap ((a.length:Int) - 1)),b))
theorem Qj9 {S:Type} {Y:S->Int×Qm->Option (S⊕S)} {f:S} {b:List Qm} {r:S⊕S} (h:QcM Y f b=some r):Qsz prog 141 [tptr ((rSl Qs).cs b)] (λi=>.int .i64 i.1) (λi=>Qs.ty i.2) Y f r:=by
 intro l W g0 s;refine⟨λ_=>ttup [],?_⟩;unfold QcM at h;refine fe func141 ntmps141 λI M t a c H=>?_;refine wp_seq_k (λv j=>?_);refine wr mx [] H (λ_=>.o (Q4 (R:=(rSl Qs)) (u:=b) Qmt z1)<|.o (QaW underlying24 z0)<|.o (Qpo z0 .k)<|.o (Ql z0)<|.n) λ_ a w H=>?_;have H:=H.to [3,4,5] [_,_,_] [_] rfl rfl;refine j _ _ ?_;clear j v;refine wp_block ?_;refine QbU _ (λ(s0:Int×S) a w=>∃g:Value,St M t 19 [(3,ti s0.1),(0,tv (.func (.yield l) #[] #[])),(1,tptr ((rSl Qs).cs b))] [W (.inl s0.2) g] a w) _ _ h ⟨g0,H⟩ ?_;clear h;intro s0 o a w K x h k y;obtain⟨g1,H⟩:=x;refine wp_seq_k (λz m=>?_);refine wp_seq_k (λA n=>?_);refine wr mx [] H (λ_=>.q 0 rfl<|.o (QiS z0 .k)<|.n) λ_ a w H=>?_;have H:=H.to [1,2,3,4] [_,_,_,_] [_] rfl rfl;refine n _ _ ?_;clear n A;refine wi H h (λB h=>?_) (λB h=>?_)
 ·have⟨C,h0,d,D,h⟩:=bs2 h;refine wp_skip (m _ _ ?_);clear m z;refine wp_seq_k (λ_ E=>?_);refine wp_block ?_;refine wp_seq_k (λF p=>?_);refine Qdq mixed [v1 6 (λv0=>W d v0)] H (λq=>.q 2 rfl<|.q 2 rfl<|.o (Q4 (R:=(rSl Qs)) (u:=b) Qmt z5)<|.q 4 rfl<|.o (Qam underlying24 Qhh z1 z0 h0)<|.o (Q4 (R:=Qs) (u:=C) Qhh z0)<|.e [] [0] [1] rfl rfl rfl rfl (Qwd z5 z4 z0 (s _ _ _ _ D))<|.o (QkL z0)<|.nil _ _) (by kernel_rfl) (λq a w H=>?_);have H:=H.to [7,9,10,11] [_,_,_,_] [_] rfl rfl;refine p _ _ ?_;clear p F;refine wt H (λe=>?_) (λe=>?_)
  ·cases d with
   | inl s3=>simp at e
   | inr s3=>
    simp only at h;refine wp_ret ?_;obtain rfl:=k _ (sj h).symm;exact rt (q 6) [0] c H .nil
  cases d with
  | inr s3=>simp at e
  | inl s3=>
   simp only at h;refine wp_skip (E _ _ ?_);refine wr mx [] H (λ_=>.q 1 rfl<|.o (Qpo z0 .k)<|.o (Ql z0)<|.n) λ_ a w H=>?_;have H:=H.to [2,4,5] [_,_,_] [_] rfl rfl;exact y _ _ _ (sj h).symm ⟨_,H⟩
 refine wp_exit ?_;obtain rfl:=k _ (sj h).symm;exact QuE g1 [0] c H rfl .nil rfl rfl rfl
def Qb0 (a:Bool) (b:Int):Option (Int):=(if a=true then (some b) else (some (0:Int)))
instance Qka:Spc2 prog 75 Qb0 (λa c=>[tb a,ti c]) ti:=.mk λ{a c r} h=>by
 unfold Qb0 at h
 refine Fe func75 ntmps75 λd M e b=>?_
 refine Qa 12 ?_
 refine tIfs h 10 (λ_ h=>?_) λ_ h=>?_
 ·refine Qa 4 ?_
  exact Qp h (·▸Qn b)
 refine Qa 2 ?_
 exact Qp h (·▸Qn b)
def Qb5 (e:QaB) (d:Int) (a:Int) (b:Int) (c:(List Int)):Option (QaB):=(Qr (λ(s0:Int×List Qy)=>(if (decide (s0.1<(c.length:Int)))=true then (idx c s0.1).bind λf=>((if (f !=0)=true then (rm (s0.2.length+[(Qy.mk d a b f)].length)).bind λ_=>(some (s0.2++[(Qy.mk d a b f)])) else (some s0.2))).bind λg=>(some (.inl ((i64.wrap (s0.1+1)),g))) else (some (.inr s0.2)))) ((0:Int),e.out)).bind λh=>(some (QaB.mk e.x e.w e.links e.refs e.lives h))
instance QeE:SpcS prog 74 (∀{g b a e c d f r},Qb5 a e c d f=some r->FnOk prog 74 [tv g,ti e,ti c,ti d,tsl rI f] [bxC a.x a.w a.links a.refs a.lives b g,own QG 108 a.out b] (λv=>[bxC r.x r.w r.links r.refs r.lives v g,own QG 108 r.out v]) (λ_=>ttup [])):=.mk λ{g b a e c d f r} h=>by
 unfold Qb5 at h
 refine Fe func74 ntmps74 λs M n l=>?_
 refine Qa 254 ?_
 have⟨t,h0,h⟩:=bs h
 have u:∀m j,m=t->To M n 35 [(0,tv g)] [bxC a.x a.w a.links a.refs a.lives j g,own QG 108 m j] (Ret prog f74 s [bxC a.x a.w a.links a.refs a.lives b g,own QG 108 a.out b] n (λv=>[bxC r.x r.w r.links r.refs r.lives v g,own QG 108 r.out v]) (λ_=>ttup []) .normal):=by
  intro m j w;subst w;obtain rfl:=sj h;exact Qll j [0,1] l
 refine Qk <|QaU h0 (λs0 i=>[(14,ti s0.1)]) 34101805442 (λs0 i=>[bxC a.x a.w a.links a.refs a.lives i g,own QG 108 s0.2 i]) 129 b 254 ?_;clear h;intro s0 i o F h x y;refine Qa 510 ?_;refine Qf λ_ z=>Qo h (λ_ h=>?_) λ_ h=>?_
 ·refine Qu <|z <|Qf λA B=>Qk ?_;have⟨C,_,h⟩:=bs h;refine Qa 4072 ?_;refine Qa 2044 ?_;have⟨D,p,h⟩:=bs h;refine tJ1 (λ_=>[]) 16260 (λk=>[own QG 108 D k,bxC a.x a.w a.links a.refs a.lives k g]) 129 A (λk=>?_) λq=>?_
  ·refine B <|QJ 508 ?_;refine Qan (λ_ _ H=>(H.pick [1,2,0,3,4,5,6]).Xk [1,0] rfl) ?_;exact Q7 y k ((sj h).symm) 254
  replace h:=p;clear p;refine Qo h (λ_ h=>?_) λ_ h=>?_
  ·have⟨_,_,h⟩:=bs h;refine QaG [v1 11 (λv0=>own QG 108 (s0.2++[(Qy.mk e c d C)]) v0),v1 11 (λv0=>bxC a.x a.w a.links a.refs a.lives v0 g)] [12,15] 16650240 λE=>?_;obtain rfl:=sj h;exact QN (q (E 11)) 508
  refine Qu ?_;obtain rfl:=sj h;refine Qan (λ_ _ H=>(H.pick [2,3,4,5,6,7,8]).Xk [1,0] rfl) ?_;exact QN (q i) 254
 refine QQ <|Q7 u i (x _ (sj h).symm) 32
def Qcn (b:Int) (a:Qe):Option (Int):=(Qb0 ((decide (b<a.Lo))||(decide (b>a.Hi))) 5).bind λc=>(some c)
instance QhE:Spc2 prog 111 Qcn (λc a=>[ti c,tptr (Qd.cs a)]) ti:=.mk λ{c a r} h=>by
 unfold Qcn at h
 refine Fe func111 ntmps111 λd M e b=>?_
 refine Qa 12 ?_
 have⟨_,_,h⟩:=bs h
 refine Qa 4096 ?_
 exact Qp h (·▸Qn b)
def QfN (a:(List Int)) (b:Int):Option (Int):=(Qr (λ(s0:Int)=>((if (decide (s0<(a.length:Int)))=true then (idx a s0).bind λc=>(if (b==c)=true then (some (.inr (.inr s0))) else (some (.inl (i64.wrap (s0+1))))) else (some (.inr (.inl ())))):Option ((Int)⊕((Unit)⊕(Int))))) (0:Int)).bind λd=>(match d with | .inl _=>(some (-1:Int)) | .inr e=>(some e))
instance Qxc:Spc2 prog 142 QfN (λc d=>[tsl rI c,ti d]) ti:=.mk λ{c d r} h=>by
 unfold QfN at h
 refine Fe func142 ntmps142 λt M j a=>?_
 refine Qa 12 ?_
 refine Qf λk l=>?_
 refine Qa 60 ?_
 have⟨e,h0,h⟩:=bs h
 have m:∀f,(.inl f)=e->To M j 19 [] [] k:=by
  intro f b;subst b;simp only at h;refine l <|Qa 2 ?_;exact Qp h (·▸Qn a)
 refine tJr (λg=>[(4,ti g)]) 1 (λ_=>[]) 0 (.inr ·=e) (λg b=>?_) λn=>?_
 ·subst b;simp only at h;obtain rfl:=sj h;exact Qn a
 refine Qk <|Qaf h0 (λs0=>[(8,ti s0)]) 10551426 (λs0=>[]) 0 30 ?_;clear h;intro s0 o u h i p;refine Qa 62 ?_;refine Qf λ_ q=>Qo h (λ_ h=>?_) λ_ h=>?_
 ·refine Qu <|q <|Qf λ_ s=>Qk <|Qa 244 ?_;have⟨_,_,h⟩:=bs h;refine Qa 4032 ?_;refine Qo h (λ_ h=>?_) λ_ h=>?_
  ·refine Qa 4 ?_;refine QaA ?_;exact Qx n (i _ (sj h).symm) 2
  refine Qu <|s <|QJ 228 ?_;exact Qx p ((sj h).symm) 16875781
 refine QQ <|Qx m (i _ (sj h).symm) 0
def Qdy (a:(List Int)) (b:Int):Option (Bool):=(QfN a b).bind λc=>(some (decide (c>=0)))
instance Quh:Spc2 prog 112 Qdy (λb c=>[tsl rI b,ti c]) tb:=.mk λ{b c r} h=>by
 unfold Qdy at h
 refine Fe func112 ntmps112 λd M e a=>?_
 refine Qa 12 ?_
 have⟨_,_,h⟩:=bs h
 refine Qa 32 ?_
 exact Qp h (·▸Qn a)
def Qit (a:Int):Option (Bool):=(some (decide (a<0)))
instance QCB:Spc1 prog 40 Qit (λb=>[ti b]) tb:=.mk λ{b r} h=>by
 unfold Qit at h
 refine Fe func40 ntmps40 λc M d a=>?_
 refine Qa 4 ?_
 refine Qa 8 ?_
 exact Qp h (·▸Qn a)
def Qei (a:(List Int)):Option (Int):=(if (decide ((a.length:Int)<1))=true then none else (idx a 0).bind λb=>(Qr (λ(s0:Int×Int)=>(if (decide (s0.1<(a.length:Int)))=true then (idx a s0.1).bind λc=>(some (.inl ((i64.wrap (s0.1+1)),(imin s0.2 c)))) else (some (.inr s0.2)))) ((1:Int),b)).bind λd=>(some d))
instance QoG:Spc1 prog 86 Qei (λc=>[tsl rI c]) ti:=.mk λ{c r} h=>by
 unfold Qei at h
 refine Fe func86 ntmps86 λp M d a=>?_
 refine Qa 4 ?_
 refine tIfs h 24 (λ_ h=>?_) λ_ h=>?_
 ·cases h
 have⟨_,_,h⟩:=bs h
 refine Qa 80 ?_
 refine Qf λe f=>?_
 refine Qa 14 ?_
 have⟨g,h0,h⟩:=bs h
 have i:∀b,b=g->To M d 25 [(3,ti b)] [] e:=by
  intro b j;subst j;refine f <|Qa 4 ?_;exact Qp h (·▸Qn a)
 refine Qk <|Qaf h0 (λs0=>[(4,ti s0.1),(3,ti s0.2)]) 65665 (λs0=>[]) 0 14 ?_;clear h;intro s0 o q h k l;refine Qf λ_ m=>Qa 240 ?_;refine Qo h (λ_ h=>?_) λ_ h=>?_
 ·refine Qu <|m <|Qf λ_ n=>Qk ?_;have⟨_,_,h⟩:=bs h;refine QJ 1664 ?_;refine n <|QJ 56 ?_;exact Qx l ((sj h).symm) 14
 refine QQ <|Qx i (k _ (sj h).symm) 8
