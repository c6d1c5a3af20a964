/- The walk. No condition. -/
import Derived.Test.YtohojolgolinoaaGreatDoorLib
import Derived.Test.YtohojolgolinoaaGreatDoorBaseI
set_option linter.all false
open List Go.Proofs.Tryz Go.IntKind
namespace Go.Proofs.YtohojolgolinoaaGreatDoor
noncomputable section
open Go.Sim
set_option maxRecDepth 100000
set_option maxHeartbeats 4000000
def Gf (b:Int) (a:Int):Option Int:=(if decide (b<0) then some (i64.wrap (0 - (i64.wrap (b+1)))) else some b).bind λc=>if decide (a<1) then some 0 else (nz a).bind λ_=>some (Int.tmod c a)
instance rZ:Spc2 prog 9 Gf (λc a=>[ti c,ti a]) ti:=.mk λ{c a r} h=>by
 refine Fe func9 ntmps9 λj M e b=>?_
 apply Qa 12
 refine Qf λf g=>?_
 apply Qa 28
 have⟨i,h0,h⟩:=bs h
 have d:To M e 15 [(0,ti i),(1,ti a)] [] f:=by
  refine g <|tIfs h 28 (λ_ h=>?_) λ_ h=>?_
  ·apply Qa 2;exact tRE h b
  have⟨_,_,h⟩:=bs h;apply Qa 16;exact tRE h b
 replace h:=h0;apply Qo h<;>intro _ h
 ·apply QJ 80;cases sj h;exact QN d 6
 apply Qu;cases sj h;exact QN d 12
def EM (c:Lz) (b:Int) (a:Int):Option Int:=(if (decide (b<0))||(decide (b>=(c.length:Int))) then some 0 else (idx c b).bind λd=>(Gf d a).bind λe=>some e)
instance rQ:Spc3 prog 55 EM (λc d a=>[tsl rI c,ti d,ti a]) ti:=.mk λ{c d a r} h=>by
 refine Fe func55 ntmps55 λe M f b=>?_
 apply Qa 28
 refine tIfs h 3840 (λ_ h=>?_) λ_ h=>?_
 ·apply Qa 2
  exact tRE h b
 have⟨_,_,_,_,h⟩:=bs2 h
 apply Qa 128
 exact tRE h b
def QS (a:QR) (b:Int):Option (Int×QR):=(EM a.L (i64.wrap ((i64.wrap (a.I+1)) - 1)) b).bind λc=>some (c,QR.mk a.L (i64.wrap (a.I+1)))
instance MZ:SpcS prog 52 (∀{a b c r},QS b c=some r->FnOk prog 52 [tv a,ti c] [box (QC.cs b) a] (λ_=>[box (QC.cs r.2) a]) (λ_=>ti r.1)):=.mk λ{a b c r} h=>by
 refine Fe func52 ntmps52 λe M f d=>?_
 apply Qa 12
 refine QU [v0 (box (QC.cs (QR.mk b.L (i64.wrap (b.I+1)))) a)] [8] 768 λg=>?_
 have⟨_,_,h⟩:=bs h
 apply Qa 12288
 exact Qp h (·▸AO undef [0] d)
def Gg (b:(List Qe)) (a:Str):Option Int:=(Qr (λ(s0:Int)=>((if decide (s0<(b.length:Int)) then (idx b s0).bind λc=>if c.Xj==a then some (.inr (.inr s0)) else some (.inl (i64.wrap (s0+1))) else some (.inr (.inl ()))):Option (Int⊕(Unit⊕Int)))) 0).bind λd=>(match d with | .inl _=>(some (-1)) | .inr e=>some e)
instance eP:Spc2 prog 108 Gg (λd a=>[tsl Qd d,tv (.string (sB a))]) ti:=.mk λ{d a r} h=>by
 refine Fe func108 ntmps108 λt M j b=>?_
 apply Qa 12
 refine Qf λk l=>?_
 apply Qa 14
 have⟨e,h0,h⟩:=bs h
 have m:∀f,(.inl f)=e->To M j 20 [] [] k:=by
  intro f c;subst c;simp only at h;refine l <|Qa 2 ?_;exact tRE h b
 refine tJr (λg=>[(4,ti g)]) 1 (λ_=>[]) 0 (.inr ·=e) (λg c=>?_) λn=>?_
 ·subst c;simp only at h;exact oRE h b
 refine Qk <|AC h0 (λs0=>[(5,ti s0)]) 65921 (λs0=>[]) 0 14 ?_;intro s0 o u h i p;refine Qf λ_ q=>Qa 240 ?_;apply Qo h<;>intro _ h
 ·refine Qu <|q <|Qf λ_ s=>Qk ?_;have⟨_,_,h⟩:=bs h;apply Qa 3712;apply Qo h<;>intro _ h
  ·apply Qa 4;apply AG;exact Qx n (i _ (sy h)) 2
  refine Qu <|s <|QJ 104 ?_;exact Qx p (sy h) 14
 refine QQ <|Qx m (i _ (sy h)) 0
def C4 (c:Int) (a:Int) (b:Int):Option Bool:=some ((decide (c>=a))&&(decide (c<=b)))
instance sC:Spc3 prog 187 C4 (λd a b=>[ti d,ti a,ti b]) tb:=.mk λ{d a b r} h=>by
 refine Fe func187 ntmps187 λe M f c=>?_
 apply Qa 28
 apply Qa 512
 exact tRE h c
def Iq (a:Int):Option Bool:=some ((decide (a>=97))&&(decide (a<=122)))
instance sE:Spc1 prog 256 Iq (λb=>[tv (.int .u8 b)]) tb:=.mk λ{b r} h=>by
 refine Fe func256 ntmps256 λc M d a=>?_
 apply Qa 4
 apply Qa 128
 exact tRE h a
def PN (a:Int):Option Bool:=some ((decide (a>=48))&&(decide (a<=57)))
instance sF:Spc1 prog 257 PN (λb=>[tv (.int .u8 b)]) tb:=.mk λ{b r} h=>by
 refine Fe func257 ntmps257 λc M d a=>?_
 apply Qa 4
 apply Qa 128
 exact tRE h a
def DQ (a:Str):Option Bool:=(opt (((decide ((a.length:Int)<1))||(decide ((a.length:Int)>12)))==false) (idx a 0) default).bind λc=>(opt (((decide ((a.length:Int)<1))||(decide ((a.length:Int)>12)))==false) (Iq (c.toNat:Int)) default).bind λd=>(if ((decide ((a.length:Int)<1))||(decide ((a.length:Int)>12)))||(!d) then some false else (Qr (λ(s0:Int)=>((if decide (s0<(a.length:Int)) then (idx a s0).bind λe=>(Iq (e.toNat:Int)).bind λb=>(opt ((!b)==true) (idx a s0) default).bind λf=>(opt ((!b)==true) (PN (f.toNat:Int)) default).bind λg=>if (!b)&&(!g) then some (.inr (.inr false)) else some (.inl (i64.wrap (s0+1))) else some (.inr (.inl ()))):Option (Int⊕(Unit⊕Bool)))) 0).bind λh=>(match h with | .inl _=>(some true) | .inr i=>some i))
instance sG:Spc1 prog 221 DQ (λc=>[tv (.string (sB c))]) tb:=.mk λ{c r} h=>by
 refine Fe func221 ntmps221 λs M i a=>?_
 apply Qa 4
 have⟨_,_,_,_,h⟩:=bs2 h
 refine tIfs h 49152 (λ_ h=>?_) λ_ h=>?_
 ·apply Qa 2
  exact tRE h a
 refine Qf λj k=>?_
 apply Qa 10
 have⟨d,h0,h⟩:=bs h
 have l:∀e,(.inl e)=d->To M i 36 [] [] j:=by
  intro e b;subst b;simp only at h;refine k <|Qa 2 ?_;exact tRE h a
 refine tJr (λf=>[(2,tb f)]) 1 (λ_=>[]) 0 (.inr ·=d) (λf b=>?_) λm=>?_
 ·subst b;simp only at h;exact oRE h a
 refine Qk <|AC h0 (λs0=>[(3,ti s0)]) 385 (λs0=>[]) 0 6 ?_;intro s0 o t h g n;refine Qf λ_ p=>Qa 112 ?_;apply Qo h<;>intro _ h
 ·refine Qu <|p <|Qf λ_ q=>Qk ?_;have⟨_,_,_,_,_,_,_,_,h⟩:=bs4 h;apply Qa 53248;apply Qo h<;>intro _ h
  ·apply Qa 2;apply AG;exact Qx m (g _ (sy h)) 2
  refine Qu <|q <|QJ 40 ?_;exact Qx n (sy h) 6
 refine QQ <|Qx l (g _ (sy h)) 0
def EV (a:Lz):Option Lz:=(rm (([]:Lz).length+a.length)).bind λ_=>some ([]++a)
instance eR:SpcS prog 58 (∀{b r},EV b=some r->FnOk prog 58 [tsl rI b] [] (λv=>[own rI 3 r v]) (λv=>tv v)):=.mk λ{b r} h=>by
 unfold EV at h
 refine Fe func58 ntmps58 λf M g a=>?_
 apply Qa 4
 refine Qf λ_ c=>?_
 apply Qa 12
 refine tTestN 0 (λd=>?_) ?_
 ·replace h:(some ([]:Lz))=some r:=by
   have⟨_,_,h⟩:=bs h;rw[d] at h;exact h
  apply Qa 2;apply tNl rI 3;exact Qp h (·▸AO (.slice none 0 0) [0] a)
 refine Qu <|c ?_;have⟨_,_,h⟩:=bs h;refine QU [vo 0 rI 3 ([]:Lz),vo 2 rI 3 (([]:Lz)++b)] [1,3] 24 λe=>?_;exact Qp h (·▸AO (e 2) [0] a)
def Lb (a:Qi) (b:(Int->Option Bool)):Option Bool:=(b a.From).bind λc=>(opt ((!c)==false) (b a.To) default).bind λd=>some (((((((!c)||(!d))||(decide (a.Lo<0)))||(decide (a.Lo>a.Hi)))||(decide (a.Hi>1000)))||(decide (a.Cost<(-1000))))||(decide (a.Cost>1000)))
instance sH:Spc2 prog 164 Lb (λc a=>[QE.ty c,tptr (Eo.cs a)]) tb:=.mk λ{c a r} h=>by
 refine Fe func164 ntmps164 λd M e b=>?_
 apply Qa 18
 have⟨_,_,_,_,h⟩:=bs2 h
 apply Qa 1099511627776
 exact tRE h b
def Hv (a:Lz) (b:Lz):Option Bool:=if (a.length:Int) !=(b.length:Int) then some false else (Qr (λ(s0:Int)=>((if decide (s0<(a.length:Int)) then (idx a s0).bind λc=>(idx b s0).bind λd=>if c !=d then some (.inr (.inr false)) else some (.inl (i64.wrap (s0+1))) else some (.inr (.inl ()))):Option (Int⊕(Unit⊕Bool)))) 0).bind λe=>(match e with | .inl _=>(some true) | .inr f=>some f)
instance sI:Spc2 prog 22 Hv (λc d=>[tsl rI c,tsl rI d]) tb:=.mk λ{c d r} h=>by
 refine Fe func22 ntmps22 λt M j a=>?_
 apply Qa 12
 refine tIfs h 224 (λ_ h=>?_) λ_ h=>?_
 ·apply Qa 2
  exact tRE h a
 refine Qf λk l=>?_
 apply Qa 26
 have⟨e,h0,h⟩:=bs h
 have m:∀f,(.inl f)=e->To M j 26 [] [] k:=by
  intro f b;subst b;simp only at h;refine l <|Qa 2 ?_;exact tRE h a
 refine tJr (λg=>[(4,tb g)]) 1 (λ_=>[]) 0 (.inr ·=e) (λg b=>?_) λn=>?_
 ·subst b;simp only at h;exact oRE h a
 refine Qk <|AC h0 (λs0=>[(5,ti s0)]) 65921 (λs0=>[]) 0 14 ?_;intro s0 o u h i p;refine Qf λ_ q=>Qa 240 ?_;apply Qo h<;>intro _ h
 ·refine Qu <|q <|Qf λ_ s=>Qk ?_;have⟨_,_,_,_,h⟩:=bs2 h;apply Qa 14848;apply Qo h<;>intro _ h
  ·apply Qa 2;apply AG;exact Qx n (i _ (sy h)) 2
  refine Qu <|s <|QJ 104 ?_;exact Qx p (sy h) 14
 refine QQ <|Qx m (i _ (sy h)) 0
def FQ (a:Int) (b:Int) (c:Int):Option Int:=if decide (a<b) then some b else some (imin a c)
instance sJ:Spc3 prog 23 FQ (λa b c=>[ti a,ti b,ti c]) ti:=.mk λ{a b c r} h=>by
 refine Fe func23 ntmps23 λe M f d=>?_
 apply Qa 28
 refine tIfs h 120 (λ_ h=>?_) λ_ h=>?_
 ·apply Qa 4
  exact tRE h d
 apply Qa 16
 exact tRE h d
def T7 (b:AS) (a:(AS->Option Bool)):Option Bool:=(a b).bind λc=>some (!c)
instance sL:Spc2 prog 251 T7 (λc a=>[Af.ty c,tptr (HJ.cs a)]) tb:=.mk λ{c a r} h=>by
 refine Fe func251 ntmps251 λd M e b=>?_
 apply Qa 18
 have⟨_,_,h⟩:=bs h
 apply Qa 32
 exact tRE h b
def MQ (a:(List AS)) (b:(AS->Option Bool)):Option Int:=(Qr (λ(s0:Int)=>((if decide (s0<(a.length:Int)) then (idx a s0).bind λc=>(b c).bind λd=>if d then some (.inr (.inr s0)) else some (.inl (i64.wrap (s0+1))) else some (.inr (.inl ()))):Option (Int⊕(Unit⊕Int)))) 0).bind λe=>(match e with | .inl _=>(some (-1)) | .inr f=>some f)
instance sM:Spc2 prog 203 MQ (λc d=>[tsl Af c,HJ.ty d]) ti:=.mk λ{c d r} h=>by
 refine Fe func203 ntmps203 λt M j a=>?_
 apply Qa 12
 refine Qf λk l=>?_
 apply Qa 60
 have⟨e,h0,h⟩:=bs h
 have m:∀f,(.inl f)=e->To M j 19 [] [] k:=by
  intro f b;subst b;simp only at h;refine l <|Qa 2 ?_;exact tRE h a
 refine tJr (λg=>[(4,ti g)]) 1 (λ_=>[]) 0 (.inr ·=e) (λg b=>?_) λn=>?_
 ·subst b;simp only at h;exact oRE h a
 refine Qk <|AC h0 (λs0=>[(8,ti s0)]) 10551426 (λs0=>[]) 0 30 ?_;intro s0 o u h i p;apply Qa 62;refine Qf λ_ q=>Qo h (λ_ h=>?_) λ_ h=>?_
 ·refine Qu <|q <|Qf λ_ s=>Qk <|Qa 244 ?_;have⟨_,_,_,_,h⟩:=bs2 h;apply Qa 4032;apply Qo h<;>intro _ h
  ·apply Qa 4;apply AG;exact Qx n (i _ (sy h)) 2
  refine Qu <|s <|QJ 228 ?_;exact Qx p (sy h) 16875781
 refine QQ <|Qx m (i _ (sy h)) 0
def JG (a:(List AS)) (b:(AS->Option Bool)):Option Bool:=(MQ a b).bind λc=>some (decide (c>=0))
instance sN:Spc2 prog 175 JG (λb c=>[tsl Af b,HJ.ty c]) tb:=.mk λ{b c r} h=>by
 refine Fe func175 ntmps175 λd M e a=>?_
 apply Qa 12
 have⟨_,_,h⟩:=bs h
 apply Qa 32
 exact tRE h a
def Ma (b:(List AS)) (a:(AS->Option Bool)):Option Bool:=(JG b (λx0=>T7 x0 a)).bind λc=>some (!c)
instance sO:Spc2 prog 212 Ma (λc a=>[tsl Af c,HJ.ty a]) tb:=.mk λ{c a r} h=>by
 refine Fe func212 ntmps212 λd M e b=>?_
 apply Qa 10
 have⟨_,_,h⟩:=bs h
 apply Qa 32
 exact tRE h b
def Hy (a:Lz) (b:(Int->Option Bool)):Option Int:=(Qr (λ(s0:Int)=>((if decide (s0<(a.length:Int)) then (idx a s0).bind λc=>(b c).bind λd=>if d then some (.inr (.inr s0)) else some (.inl (i64.wrap (s0+1))) else some (.inr (.inl ()))):Option (Int⊕(Unit⊕Int)))) 0).bind λe=>(match e with | .inl _=>(some (-1)) | .inr f=>some f)
instance sP:Spc2 prog 122 Hy (λc d=>[tsl rI c,Eo.ty d]) ti:=.mk λ{c d r} h=>by
 refine Fe func122 ntmps122 λt M j a=>?_
 apply Qa 12
 refine Qf λk l=>?_
 apply Qa 60
 have⟨e,h0,h⟩:=bs h
 have m:∀f,(.inl f)=e->To M j 19 [] [] k:=by
  intro f b;subst b;simp only at h;refine l <|Qa 2 ?_;exact tRE h a
 refine tJr (λg=>[(4,ti g)]) 1 (λ_=>[]) 0 (.inr ·=e) (λg b=>?_) λn=>?_
 ·subst b;simp only at h;exact oRE h a
 refine Qk <|AC h0 (λs0=>[(8,ti s0)]) 10551426 (λs0=>[]) 0 30 ?_;intro s0 o u h i p;apply Qa 62;refine Qf λ_ q=>Qo h (λ_ h=>?_) λ_ h=>?_
 ·refine Qu <|q <|Qf λ_ s=>Qk <|Qa 244 ?_;have⟨_,_,_,_,h⟩:=bs2 h;apply Qa 4032;apply Qo h<;>intro _ h
  ·apply Qa 4;apply AG;exact Qx n (i _ (sy h)) 2
  refine Qu <|s <|QJ 228 ?_;exact Qx p (sy h) 16875781
 refine QQ <|Qx m (i _ (sy h)) 0
def EE (a:Lz) (b:(Int->Option Bool)):Option Bool:=(Hy a b).bind λc=>some (decide (c>=0))
instance sR:Spc2 prog 63 EE (λb c=>[tsl rI b,Eo.ty c]) tb:=.mk λ{b c r} h=>by
 refine Fe func63 ntmps63 λd M e a=>?_
 apply Qa 12
 have⟨_,_,h⟩:=bs h
 apply Qa 32
 exact tRE h a
def Oj (a:Int):Option Bool:=some ((decide (a<(-1099511627776)))||(decide (a>1099511627776)))
instance sS:Spc1 prog 83 Oj (λb=>[ti b]) tb:=.mk λ{b r} h=>by
 refine Fe func83 ntmps83 λc M d a=>?_
 apply Qa 4
 apply Qa 128
 exact tRE h a
def Il (a:Lz) (b:Qc) (c:Int):Option Bool:=(idx b.Xa c).bind λd=>(opt (((a.length:Int) !=(d.Xb.length:Int))==false) (EE a (λx0=>Oj x0)) default).bind λe=>some (((a.length:Int) !=(d.Xb.length:Int))||e)
instance sT:Spc3 prog 82 Il (λd a b=>[tsl rI d,tptr (Qb.cs a),tptr (rI.cs b)]) tb:=.mk λ{d a b r} h=>by
 refine Fe func82 ntmps82 λe M f c=>?_
 apply Qa 28
 have⟨_,_,_,_,h⟩:=bs2 h
 apply Qa 32768
 exact tRE h c
def Pe (a:(List Lz)) (b:(Lz->Option Bool)):Option Int:=(Qr (λ(s0:Int)=>((if decide (s0<(a.length:Int)) then (idx a s0).bind λc=>(b c).bind λd=>if d then some (.inr (.inr s0)) else some (.inl (i64.wrap (s0+1))) else some (.inr (.inl ()))):Option (Int⊕(Unit⊕Int)))) 0).bind λe=>(match e with | .inl _=>(some (-1)) | .inr f=>some f)
instance sV:Spc2 prog 145 Pe (λc d=>[tsl (rSl rI) c,Rr.ty d]) ti:=.mk λ{c d r} h=>by
 refine Fe func145 ntmps145 λt M j a=>?_
 apply Qa 12
 refine Qf λk l=>?_
 apply Qa 60
 have⟨e,h0,h⟩:=bs h
 have m:∀f,(.inl f)=e->To M j 19 [] [] k:=by
  intro f b;subst b;simp only at h;refine l <|Qa 2 ?_;exact tRE h a
 refine tJr (λg=>[(4,ti g)]) 1 (λ_=>[]) 0 (.inr ·=e) (λg b=>?_) λn=>?_
 ·subst b;simp only at h;exact oRE h a
 refine Qk <|AC h0 (λs0=>[(8,ti s0)]) 10551426 (λs0=>[]) 0 30 ?_;intro s0 o u h i p;apply Qa 62;refine Qf λ_ q=>Qo h (λ_ h=>?_) λ_ h=>?_
 ·refine Qu <|q <|Qf λ_ s=>Qk <|Qa 244 ?_;have⟨_,_,_,_,h⟩:=bs2 h;apply Qa 4032;apply Qo h<;>intro _ h
  ·apply Qa 4;apply AG;exact Qx n (i _ (sy h)) 2
  refine Qu <|s <|QJ 228 ?_;exact Qx p (sy h) 16875781
 refine QQ <|Qx m (i _ (sy h)) 0
def HT (a:(List Lz)) (b:(Lz->Option Bool)):Option Bool:=(Pe a b).bind λc=>some (decide (c>=0))
instance sW:Spc2 prog 81 HT (λb c=>[tsl (rSl rI) b,Rr.ty c]) tb:=.mk λ{b c r} h=>by
 refine Fe func81 ntmps81 λd M e a=>?_
 apply Qa 12
 have⟨_,_,h⟩:=bs h
 apply Qa 32
 exact tRE h a
def Dw (e:Cv) (d:Int) (a:Int) (b:Int) (c:Lz):Option Cv:=(Qr (λ(s0:Int×List Qy)=>if decide (s0.1<(c.length:Int)) then (idx c s0.1).bind λf=>(if f !=0 then (rm (s0.2.length+[Qy.mk d a b f].length)).bind λ_=>some (s0.2++[Qy.mk d a b f]) else some s0.2).bind λg=>some (.inl (i64.wrap (s0.1+1),g)) else some (.inr s0.2)) (0,e.out)).bind λh=>some (Cv.mk e.x e.w e.links e.refs e.lives h)
instance Mb:SpcS prog 32 (∀{g b a e c d f r},Dw a e c d f=some r->FnOk prog 32 [tv g,ti e,ti c,ti d,tsl rI f] [bxC a.x a.w a.links a.refs a.lives b g,own QG 78 a.out b] (λv=>[bxC r.x r.w r.links r.refs r.lives v g,own QG 78 r.out v]) (λ_=>ttup [])):=.mk λ{g b a e c d f r} h=>by
 refine Fe func32 ntmps32 λq M n l=>?_
 apply Qa 254
 have⟨s,h0,h⟩:=bs h
 have t:∀m j,m=s->To M n 35 [(0,tv g)] [bxC a.x a.w a.links a.refs a.lives j g,own QG 78 m j] (Ret prog f32 q [bxC a.x a.w a.links a.refs a.lives b g,own QG 78 a.out b] n (λv=>[bxC r.x r.w r.links r.refs r.lives v g,own QG 78 r.out v]) (λ_=>ttup []) .normal):=by
  intro m j u;subst u;cases sj h;exact Fo j [0,1] l
 refine Qk <|AT h0 (λs0 i=>[(14,ti s0.1)]) 34101805442 (λs0 i=>[bxC a.x a.w a.links a.refs a.lives i g,own QG 78 s0.2 i]) 129 b 254 ?_;intro s0 i o F h w x;apply Qa 510;refine Qf λ_ y=>Qo h (λ_ h=>?_) λ_ h=>?_
 ·refine Qu <|y <|Qf λz A=>Qk ?_;have⟨B,_,C,D,h⟩:=bs2 h;apply Qa 4072;apply Qa 2044;refine tJ1 (λ_=>[]) 16260 (λk=>[own QG 78 C k,bxC a.x a.w a.links a.refs a.lives k g]) 129 z (λk=>?_) λp=>?_
  ·refine A <|QJ 508 ?_;refine AA (λ_ _ H=>(H.pick [1,2,0,3,4,5,6]).Xk [1,0] rfl) ?_;exact Q7 x k (sy h) 254
  replace h:=D;apply Qo h<;>intro _ h
  ·have⟨_,_,h⟩:=bs h;refine AB [vo 11 QG 78 (s0.2++[Qy.mk e c d B]),v1 11 (λv0=>bxC a.x a.w a.links a.refs a.lives v0 g)] [12,15] 16650240 λE=>?_;cases sj h;exact QN (p (E 11)) 508
  apply Qu;cases sj h;refine AA (λ_ _ H=>(H.pick [2,3,4,5,6,7,8]).Xk [1,0] rfl) ?_;exact QN (p i) 254
 refine QQ <|Q7 t i (w _ (sy h)) 32
def T8 (a:AS) (b:Int):Option Bool:=some ((decide ((imin a.a0 a.a1)<0))||(decide ((imax a.a0 a.a1)>=b)))
instance sX:Spc2 prog 176 T8 (λc a=>[Af.ty c,tptr (rI.cs a)]) tb:=.mk λ{c a r} h=>by
 refine Fe func176 ntmps176 λd M e b=>?_
 apply Qa 18
 apply Qa 65536
 exact tRE h b
def Gh (a:Qm):Option Int:=(if (decide ((a.Xe.length:Int)>12))||(decide ((a.Xg.length:Int)>32)) then some 4 else (opt (((a.Xe.length:Int)==0)==false) (JG a.Xg (λx0=>T8 x0 (a.Xe.length:Int))) default).bind λt0=>(if ((a.Xe.length:Int)==0)||t0 then some 1 else some 0))
instance sY:Spc1 prog 131 Gh (λb=>[Qs.ty b]) ti:=.mk λ{b r} h=>by
 refine Fe func131 ntmps131 λc M d a=>?_
 apply Qa 2
 refine QU [vb 3 (rI.cs (0:Int)),vb 3 (rI.cs (b.Xe.length:Int))] [4,5] 48 λe=>?_
 apply tFz 0
 refine tIfs h 1792 (λ_ h=>?_) λ_ h=>?_
 ·apply Qa 2
  exact tRE h a
 have⟨_,_,h⟩:=bs h
 refine tIfs h 256 (λ_ h=>?_) λ_ h=>?_
 ·apply Qa 2
  exact tRE h a
 apply Qa 2
 exact tRE h a
def Pf (a:Lz) (b:Int):Option Int:=(Qr (λ(s0:Int)=>((if decide (s0<(a.length:Int)) then (idx a s0).bind λc=>if b==c then some (.inr (.inr s0)) else some (.inl (i64.wrap (s0+1))) else some (.inr (.inl ()))):Option (Int⊕(Unit⊕Int)))) 0).bind λd=>(match d with | .inl _=>(some (-1)) | .inr e=>some e)
instance sZ:Spc2 prog 147 Pf (λc d=>[tsl rI c,ti d]) ti:=.mk λ{c d r} h=>by
 refine Fe func147 ntmps147 λt M j a=>?_
 apply Qa 12
 refine Qf λk l=>?_
 apply Qa 60
 have⟨e,h0,h⟩:=bs h
 have m:∀f,(.inl f)=e->To M j 19 [] [] k:=by
  intro f b;subst b;simp only at h;refine l <|Qa 2 ?_;exact tRE h a
 refine tJr (λg=>[(4,ti g)]) 1 (λ_=>[]) 0 (.inr ·=e) (λg b=>?_) λn=>?_
 ·subst b;simp only at h;exact oRE h a
 refine Qk <|AC h0 (λs0=>[(8,ti s0)]) 10551426 (λs0=>[]) 0 30 ?_;intro s0 o u h i p;apply Qa 62;refine Qf λ_ q=>Qo h (λ_ h=>?_) λ_ h=>?_
 ·refine Qu <|q <|Qf λ_ s=>Qk <|Qa 244 ?_;have⟨_,_,h⟩:=bs h;apply Qa 4032;apply Qo h<;>intro _ h
  ·apply Qa 4;apply AG;exact Qx n (i _ (sy h)) 2
  refine Qu <|s <|QJ 228 ?_;exact Qx p (sy h) 16875781
 refine QQ <|Qx m (i _ (sy h)) 0
def Mc (a:Lz) (b:Int):Option Bool:=(Pf a b).bind λc=>some (decide (c>=0))
instance sQ:Spc2 prog 86 Mc (λb c=>[tsl rI b,ti c]) tb:=.mk λ{b c r} h=>by
 refine Fe func86 ntmps86 λd M e a=>?_
 apply Qa 12
 have⟨_,_,h⟩:=bs h
 apply Qa 32
 exact tRE h a
def KX (a:Lz) (b:Int) (c:(Int->Option Bool)):Option Bool:=(opt (((a.length:Int) !=(i64.wrap (b+1)))==false) (EE a c) default).bind λd=>some (((a.length:Int) !=(i64.wrap (b+1)))||d)
instance s6:Spc3 prog 128 KX (λa b c=>[tsl rI a,tptr (rI.cs b),tptr (Eo.cs c)]) tb:=.mk λ{a b c r} h=>by
 refine Fe func128 ntmps128 λe M f d=>?_
 apply Qa 28
 have⟨_,_,h⟩:=bs h
 apply Qa 2048
 exact tRE h d
def IR (a:Lz):Option Int:=if decide ((a.length:Int)<1) then none else (idx a 0).bind λb=>(Qr (λ(s0:Int×Int)=>if decide (s0.1<(a.length:Int)) then (idx a s0.1).bind λc=>some (.inl (i64.wrap (s0.1+1),imax s0.2 c)) else some (.inr s0.2)) (1,b)).bind λd=>some d
instance eS:Spc1 prog 129 IR (λc=>[tsl rI c]) ti:=.mk λ{c r} h=>by
 refine Fe func129 ntmps129 λp M d a=>?_
 apply Qa 4
 refine tIfs h 24 (λ_ h=>?_) λ_ h=>?_
 ·cases h
 have⟨_,_,e,h0,h⟩:=bs2 h
 apply Qa 80
 refine Qf λf g=>?_
 apply Qa 14
 have i:∀b,b=e->To M d 25 [(3,ti b)] [] f:=by
  intro b j;subst j;refine g <|Qa 4 ?_;exact tRE h a
 refine Qk <|AC h0 (λs0=>[(4,ti s0.1),(3,ti s0.2)]) 65665 (λs0=>[]) 0 14 ?_;intro s0 o q h k l;refine Qf λ_ m=>Qa 240 ?_;apply Qo h<;>intro _ h
 ·refine Qu <|m <|Qf λ_ n=>Qk ?_;have⟨_,_,h⟩:=bs h;apply QJ 1664;refine n <|QJ 56 ?_;exact Qx l (sy h) 14
 refine QQ <|Qx i (k _ (sy h)) 8
def JH (a:(Int->Option Bool)) (b:Lz):Option Int:=(Hy b a).bind λc=>if decide (c>=0) then (idx b c).bind λd=>some d else (Qr (λ(s0:Int)=>(a s0).bind λe=>if (!e)&&(decide (s0<12)) then some (.inl (i64.wrap (s0+1))) else some (.inr s0)) 0).bind λf=>some f
instance s7:Spc2 prog 72 JH (λa d=>[Eo.ty a,tsl rI d]) ti:=.mk λ{a d r} h=>by
 refine Fe func72 ntmps72 λq M e b=>?_
 apply Qa 12
 refine Qf λ_ f=>?_
 have⟨_,_,h⟩:=bs h
 apply Qa 112
 apply Qa 60
 apply Qo h<;>intro _ h
 ·have⟨_,_,h⟩:=bs h
  apply Qa 32
  exact tRE h b
 apply Qu
 apply f
 apply Qa 18
 refine Qf λg i=>?_
 have⟨j,h0,h⟩:=bs h
 have k:∀c,c=j->To M e 27 [(6,ti c)] [] g:=by
  intro c l;subst l;refine i <|Qa 4 ?_;exact tRE h b
 refine Qk <|AC h0 (λs0=>[(6,ti s0)]) 385 (λs0=>[]) 0 6 ?_;intro s0 o s h m n;refine Qf λ_ p=>?_;have⟨_,_,h⟩:=bs h;apply Qa 1792;apply Qo h<;>intro _ h
 ·refine Qu <|p <|Qk <|QJ 40 ?_;exact Qx n (sy h) 6
 refine QQ <|Qx k (m _ (sy h)) 4
def Pg (b:Qm) (a:Qe):Option Bool:=some (b.Xj==a.Of)
instance s8:Spc2 prog 75 Pg (λc a=>[Qs.ty c,tptr (Qd.cs a)]) tb:=.mk λ{c a r} h=>by
 refine Fe func75 ntmps75 λd M e b=>?_
 apply Qa 18
 apply Qa 64
 exact tRE h b
def T9 (b:Int) (a:(List Bool)):Option Bool:=(opt (((decide (b>=0))&&(decide (b<(a.length:Int))))==true) (idx a b) default).bind λc=>some (((decide (b>=0))&&(decide (b<(a.length:Int))))&&c)
instance s9:Spc2 prog 77 T9 (λc a=>[ti c,tptr ((rSl AE).cs a)]) tb:=.mk λ{c a r} h=>by
 refine Fe func77 ntmps77 λd M e b=>?_
 apply Qa 12
 have⟨_,_,h⟩:=bs h
 apply Qa 32768
 exact tRE h b
