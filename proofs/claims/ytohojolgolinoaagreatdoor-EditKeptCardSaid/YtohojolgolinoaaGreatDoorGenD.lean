/- The walk. No condition. -/
import Derived.Test.YtohojolgolinoaaGreatDoorLib
import Derived.Test.YtohojolgolinoaaGreatDoorBaseI
set_option linter.all false
open List Go.Proofs.Tryz Go.IntKind
namespace Go.Proofs.YtohojolgolinoaaGreatDoor
noncomputable section
open Go.Sim
set_option maxRecDepth 100000
set_option maxHeartbeats 4000000
def D1:Option (List Str):=some [([107,101,121]:Str),([114,101,102]:Str),([110,117,109]:Str),([112,105,99,107]:Str),([100,97,121]:Str),([115,116,101,112]:Str),([115,117,109]:Str),([115,104,97,114,101]:Str),([99,111,112,121]:Str)]
instance tA:Spc0 prog 261 D1 ([]) (tsl rS):=.mk λ{r} h=>by
 refine Fe func261 ntmps261 λb M c a=>?_
 apply Qa 0
 apply Qa 4
 exact tRE h a
def Hu (a:Str):Option Str:=if a==([]:Str) then some ([45]:Str) else some a
instance tB:Spc1 prog 227 Hu (λb=>[tv (.string (sB b))]) (λr=>tv (.string (sB r))):=.mk λ{b r} h=>by
 refine Fe func227 ntmps227 λc M d a=>?_
 apply Qa 4
 refine tIfs h 12 (λ_ h=>?_) λ_ h=>?_
 ·apply Qa 2
  exact tRE h a
 apply Qa 4
 exact tRE h a
def Do (d:(List QT)) (b:Int) (a:Int) (c:Int) (e:Int):Option (List QT):=if e==0 then some d else (rm (d.length+[QT.mk b a c e].length)).bind λ_=>some (d++[QT.mk b a c e])
instance tC:SpcS prog 149 (∀{d f b a c g r},Do f b a c g=some r->FnOk prog 149 [tv d,ti b,ti a,ti c,ti g] [own At 163 f d] (λv=>[own At 163 r v]) (λv=>tv v)):=.mk λ{d f b a c g r} h=>by
 refine Fe func149 ntmps149 λj M k e=>?_
 apply Qa 124
 refine tIfs h 252 (λ_ h=>?_) λ_ h=>?_
 ·apply Qa 22
  exact Qp h (·▸AO d [0] e)
 have⟨_,_,h⟩:=bs h
 refine QU [vo 7 At 163 (f++[QT.mk b a c g])] [8] 768 λi=>?_
 exact Qp h (·▸AO (i 7) [0] e)
def EZ (b:Qc) (a:Str):Option Int:=(Qr (λ(s0:Int)=>((if decide (s0<(b.Xa.length:Int)) then (idx b.Xa s0).bind λc=>if c.Xj==a then some (.inr (.inr s0)) else some (.inl (i64.wrap (s0+1))) else some (.inr (.inl ()))):Option (Int⊕(Unit⊕Int)))) 0).bind λd=>(match d with | .inl _=>(some (-1)) | .inr e=>some e)
instance tD:Spc2 prog 116 EZ (λd a=>[Qb.ty d,tv (.string (sB a))]) ti:=.mk λ{d a r} h=>by
 refine Fe func116 ntmps116 λt M j b=>?_
 apply Qa 18
 refine Qf λk l=>?_
 apply Qa 14
 have⟨e,h0,h⟩:=bs h
 have m:∀f,(.inl f)=e->To M j 22 [] [] k:=by
  intro f c;subst c;simp only at h;refine l <|Qa 2 ?_;exact tRE h b
 refine tJr (λg=>[(4,ti g)]) 1 (λ_=>[]) 0 (.inr ·=e) (λg c=>?_) λn=>?_
 ·subst c;simp only at h;exact oRE h b
 refine Qk <|AC h0 (λs0=>[(5,ti s0)]) 65921 (λs0=>[]) 0 14 ?_;intro s0 o u h i p;refine Qf λ_ q=>Qa 480 ?_;apply Qo h<;>intro _ h
 ·refine Qu <|q <|Qf λ_ s=>Qk ?_;have⟨_,_,h⟩:=bs h;apply Qa 7424;apply Qo h<;>intro _ h
  ·apply Qa 4;apply AG;exact Qx n (i _ (sy h)) 2
  refine Qu <|s <|QJ 104 ?_;exact Qx p (sy h) 14
 refine QQ <|Qx m (i _ (sy h)) 0
def GK (a:Lz) (b:Lz):Option Int:=(Qr (λ(s0:Int×Int)=>if (decide (s0.1<(a.length:Int)))&&(decide (s0.1<(b.length:Int))) then (idx a s0.1).bind λc=>(idx b s0.1).bind λd=>(idx b s0.1).bind λe=>(idx a s0.1).bind λf=>some (.inl (i64.wrap (s0.1+1),i64.wrap (s0.2+(imax (i64.wrap (c - d)) (i64.wrap (e - f)))))) else some (.inr s0.2)) (0,0)).bind λg=>some g
instance tE:Spc2 prog 198 GK (λc d=>[tsl rI c,tsl rI d]) ti:=.mk λ{c d r} h=>by
 refine Fe func198 ntmps198 λt M e a=>?_
 apply Qa 12
 apply Qa 14
 refine Qf λf g=>?_
 apply Qa 30
 have⟨i,h0,h⟩:=bs h
 have j:∀b,b=i->To M e 41 [(5,ti b)] [] f:=by
  intro b k;subst k;refine g <|Qa 4 ?_;exact tRE h a
 refine Qk <|AC h0 (λs0=>[(6,ti s0.1),(5,ti s0.2)]) 10551425 (λs0=>[]) 0 30 ?_;intro s0 o u h l m;refine Qf λ_ n=>Qa 31744 ?_;apply Qo h<;>intro _ h
 ·refine Qu <|n <|Qf λ_ p=>Qk ?_;have⟨_,q,_,s,h⟩:=bs2 h;replace h:=bk s h;replace h:=bk q h;apply QJ 121634816;refine p <|QJ 120 ?_;exact Qx m (sy h) 30
 refine QQ <|Qx j (l _ (sy h)) 8
def Ky (a:Lz) (b:Lz):Option Bool:=(Qr (λ(s0:Int)=>((if (decide (s0<(a.length:Int)))&&(decide (s0<(b.length:Int))) then (idx a s0).bind λc=>(idx b s0).bind λd=>if c !=d then (idx a s0).bind λe=>(idx b s0).bind λf=>some (.inr (.inr (decide (e<f)))) else some (.inl (i64.wrap (s0+1))) else some (.inr (.inl ()))):Option (Int⊕(Unit⊕Bool)))) 0).bind λg=>(match g with | .inl _=>(some false) | .inr h=>some h)
instance tF:Spc2 prog 199 Ky (λc d=>[tsl rI c,tsl rI d]) tb:=.mk λ{c d r} h=>by
 refine Fe func199 ntmps199 λt M j a=>?_
 apply Qa 12
 refine Qf λk l=>?_
 apply Qa 14
 have⟨e,h0,h⟩:=bs h
 have m:∀f,(.inl f)=e->To M j 36 [] [] k:=by
  intro f b;subst b;simp only at h;refine l <|Qa 2 ?_;exact tRE h a
 refine tJr (λg=>[(4,tb g)]) 1 (λ_=>[]) 0 (.inr ·=e) (λg b=>?_) λn=>?_
 ·subst b;simp only at h;exact oRE h a
 refine Qk <|AC h0 (λs0=>[(5,ti s0)]) 65921 (λs0=>[]) 0 14 ?_;intro s0 o u h i p;refine Qf λ_ q=>Qa 15360 ?_;apply Qo h<;>intro _ h
 ·refine Qu <|q <|Qf λ_ s=>Qk ?_;have⟨_,_,_,_,h⟩:=bs2 h;apply Qa 14848;apply Qo h<;>intro _ h
  ·have⟨_,_,_,_,h⟩:=bs2 h;apply Qa 1024;apply AG;exact Qx n (i _ (sy h)) 2
  refine Qu <|s <|QJ 104 ?_;exact Qx p (sy h) 14
 refine QQ <|Qx m (i _ (sy h)) 0
def Kz (a:Lz) (b:Lz) (c:Lz):Option Lz:=if (b.length:Int)==0 then some c else if (c.length:Int)==0 then some b else (GK a b).bind λd=>(GK a c).bind λe=>if d !=e then (GK a b).bind λf=>(GK a c).bind λg=>if decide (f<g) then some b else some c else (Ky c b).bind λh=>if h then some c else some b
instance eT:Spc3 prog 162 Kz (λb c d=>[tsl rI b,tsl rI c,tsl rI d]) (tsl rI):=.mk λ{b c d r} h=>by
 refine Fe func162 ntmps162 λe M f a=>?_
 apply Qa 28
 refine tIfs h 120 (λ_ h=>?_) λ_ h=>?_
 ·apply Qa 4
  exact tRE h a
 refine tIfs h 232 (λ_ h=>?_) λ_ h=>?_
 ·apply Qa 4
  exact tRE h a
 have⟨_,_,_,_,h⟩:=bs2 h
 refine tIfs h 3712 (λ_ h=>?_) λ_ h=>?_
 ·have⟨_,_,_,_,h⟩:=bs2 h
  refine tIfs h 3200 (λ_ h=>?_) λ_ h=>?_
  ·apply Qa 4
   exact tRE h a
  apply Qa 4
  exact tRE h a
 have⟨_,_,h⟩:=bs h
 refine tIfs h 200 (λ_ h=>?_) λ_ h=>?_
 ·apply Qa 4
  exact tRE h a
 apply Qa 4
 exact tRE h a
def Hl (b:Int) (a:Int):Option Bool:=some ((decide (b>=0))&&(decide (b<a)))
instance tG:Spc2 prog 163 Hl (λc a=>[ti c,tptr (rI.cs a)]) tb:=.mk λ{c a r} h=>by
 refine Fe func163 ntmps163 λd M e b=>?_
 apply Qa 12
 apply Qa 256
 exact tRE h b
def Is (a:(List Qi)) (b:(Qi->Option Bool)):Option Int:=(Qr (λ(s0:Int)=>((if decide (s0<(a.length:Int)) then (idx a s0).bind λc=>(b c).bind λd=>if d then some (.inr (.inr s0)) else some (.inl (i64.wrap (s0+1))) else some (.inr (.inl ()))):Option (Int⊕(Unit⊕Int)))) 0).bind λe=>(match e with | .inl _=>(some (-1)) | .inr f=>some f)
instance tH:Spc2 prog 200 Is (λc d=>[tsl QE c,R0.ty d]) ti:=.mk λ{c d r} h=>by
 refine Fe func200 ntmps200 λt M j a=>?_
 apply Qa 12
 refine Qf λk l=>?_
 apply Qa 60
 have⟨e,h0,h⟩:=bs h
 have m:∀f,(.inl f)=e->To M j 19 [] [] k:=by
  intro f b;subst b;simp only at h;refine l <|Qa 2 ?_;exact tRE h a
 refine tJr (λg=>[(4,ti g)]) 1 (λ_=>[]) 0 (.inr ·=e) (λg b=>?_) λn=>?_
 ·subst b;simp only at h;exact oRE h a
 refine Qk <|AC h0 (λs0=>[(8,ti s0)]) 10551426 (λs0=>[]) 0 30 ?_;intro s0 o u h i p;apply Qa 62;refine Qf λ_ q=>Qo h (λ_ h=>?_) λ_ h=>?_
 ·refine Qu <|q <|Qf λ_ s=>Qk <|Qa 244 ?_;have⟨_,_,_,_,h⟩:=bs2 h;apply Qa 4032;apply Qo h<;>intro _ h
  ·apply Qa 4;apply AG;exact Qx n (i _ (sy h)) 2
  refine Qu <|s <|QJ 228 ?_;exact Qx p (sy h) 16875781
 refine QQ <|Qx m (i _ (sy h)) 0
def LY (a:(List Qi)) (b:(Qi->Option Bool)):Option Bool:=(Is a b).bind λc=>some (decide (c>=0))
instance tI:Spc2 prog 165 LY (λb c=>[tsl QE b,R0.ty c]) tb:=.mk λ{b c r} h=>by
 refine Fe func165 ntmps165 λd M e a=>?_
 apply Qa 12
 have⟨_,_,h⟩:=bs h
 apply Qa 32
 exact tRE h a
def Dq (c:Int) (a:Int) (b:Int):Option Bool:=some ((decide (c>=a))&&(decide (c<=b)))
instance tJ:Spc3 prog 177 Dq (λd a b=>[ti d,ti a,ti b]) tb:=.mk λ{d a b r} h=>by
 refine Fe func177 ntmps177 λe M f c=>?_
 apply Qa 28
 apply Qa 512
 exact tRE h c
def Md (a:Int):Option Bool:=some ((decide (a>=97))&&(decide (a<=122)))
instance tK:Spc1 prog 240 Md (λb=>[tv (.int .u8 b)]) tb:=.mk λ{b r} h=>by
 refine Fe func240 ntmps240 λc M d a=>?_
 apply Qa 4
 apply Qa 128
 exact tRE h a
def Me (a:Lz) (b:(Int->Option Bool)):Option Int:=(Qr (λ(s0:Int)=>((if decide (s0<(a.length:Int)) then (idx a s0).bind λc=>(b c).bind λd=>if d then some (.inr (.inr s0)) else some (.inl (i64.wrap (s0+1))) else some (.inr (.inl ()))):Option (Int⊕(Unit⊕Int)))) 0).bind λe=>(match e with | .inl _=>(some (-1)) | .inr f=>some f)
instance tL:Spc2 prog 268 Me (λc d=>[tsl (rInt .u8) c,R3.ty d]) ti:=.mk λ{c d r} h=>by
 refine Fe func268 ntmps268 λt M j a=>?_
 apply Qa 12
 refine Qf λk l=>?_
 apply Qa 60
 have⟨e,h0,h⟩:=bs h
 have m:∀f,(.inl f)=e->To M j 19 [] [] k:=by
  intro f b;subst b;simp only at h;refine l <|Qa 2 ?_;exact tRE h a
 refine tJr (λg=>[(4,ti g)]) 1 (λ_=>[]) 0 (.inr ·=e) (λg b=>?_) λn=>?_
 ·subst b;simp only at h;exact oRE h a
 refine Qk <|AC h0 (λs0=>[(8,ti s0)]) 10551426 (λs0=>[]) 0 30 ?_;intro s0 o u h i p;apply Qa 62;refine Qf λ_ q=>Qo h (λ_ h=>?_) λ_ h=>?_
 ·refine Qu <|q <|Qf λ_ s=>Qk <|Qa 244 ?_;have⟨_,_,_,_,h⟩:=bs2 h;apply Qa 4032;apply Qo h<;>intro _ h
  ·apply Qa 4;apply AG;exact Qx n (i _ (sy h)) 2
  refine Qu <|s <|QJ 228 ?_;exact Qx p (sy h) 16875781
 refine QQ <|Qx m (i _ (sy h)) 0
def Mf (a:Lz) (b:(Int->Option Bool)):Option Bool:=(Me a b).bind λc=>some (decide (c>=0))
instance tM:Spc2 prog 241 Mf (λb c=>[tsl (rInt .u8) b,R3.ty c]) tb:=.mk λ{b c r} h=>by
 refine Fe func241 ntmps241 λd M e a=>?_
 apply Qa 12
 have⟨_,_,h⟩:=bs h
 apply Qa 32
 exact tRE h a
def UA (a:Int):Option Bool:=some ((decide (a>=48))&&(decide (a<=57)))
instance tN:Spc1 prog 243 UA (λb=>[tv (.int .u8 b)]) tb:=.mk λ{b r} h=>by
 refine Fe func243 ntmps243 λc M d a=>?_
 apply Qa 4
 apply Qa 128
 exact tRE h a
def UB (a:Int):Option Bool:=(Md a).bind λb=>(opt ((!b)==true) (UA a) default).bind λc=>some ((!b)&&(!c))
instance tO:Spc1 prog 242 UB (λb=>[tv (.int .u8 b)]) tb:=.mk λ{b r} h=>by
 refine Fe func242 ntmps242 λc M d a=>?_
 apply Qa 4
 have⟨_,_,_,_,h⟩:=bs2 h
 apply Qa 512
 exact tRE h a
def By (a:Str):Option Bool:=(Dq (a.length:Int) 1 12).bind λb=>(opt ((!b)==false) (idx a 0) default).bind λc=>(opt ((!b)==false) (Md (c.toNat:Int)) default).bind λd=>(if (!b)||(!d) then some false else (Mf (AF a) (λx0=>UB x0)).bind λe=>some (!e))
instance tR:Spc1 prog 206 By (λb=>[tv (.string (sB b))]) tb:=.mk λ{b r} h=>by
 refine Fe func206 ntmps206 λc M d a=>?_
 apply Qa 4
 have⟨_,_,_,_,_,_,h⟩:=bs3 h
 refine tIfs h 3072 (λ_ h=>?_) λ_ h=>?_
 ·apply Qa 2
  exact tRE h a
 have⟨_,_,h⟩:=bs h
 refine Qa 32 ?_ (λ_=>by refine' pr 1 ?_;refine' rx (.p rfl (op_s2b ud9 IM ud5 z0)) 3 ?_;exact rnn)
 exact tRE h a
def UC (b:Str) (a:(Str->Option Bool)):Option Bool:=(a b).bind λc=>some (!c)
instance tS:Spc2 prog 250 UC (λc a=>[tv (.string (sB c)),tptr (HL.cs a)]) tb:=.mk λ{c a r} h=>by
 refine Fe func250 ntmps250 λd M e b=>?_
 apply Qa 12
 have⟨_,_,h⟩:=bs h
 apply Qa 32
 exact tRE h b
def Mg (a:(List Str)) (b:(Str->Option Bool)):Option Int:=(Qr (λ(s0:Int)=>((if decide (s0<(a.length:Int)) then (idx a s0).bind λc=>(b c).bind λd=>if d then some (.inr (.inr s0)) else some (.inl (i64.wrap (s0+1))) else some (.inr (.inl ()))):Option (Int⊕(Unit⊕Int)))) 0).bind λe=>(match e with | .inl _=>(some (-1)) | .inr f=>some f)
instance tT:Spc2 prog 270 Mg (λc d=>[tsl rS c,HL.ty d]) ti:=.mk λ{c d r} h=>by
 refine Fe func270 ntmps270 λt M j a=>?_
 apply Qa 12
 refine Qf λk l=>?_
 apply Qa 60
 have⟨e,h0,h⟩:=bs h
 have m:∀f,(.inl f)=e->To M j 19 [] [] k:=by
  intro f b;subst b;simp only at h;refine l <|Qa 2 ?_;exact tRE h a
 refine tJr (λg=>[(4,ti g)]) 1 (λ_=>[]) 0 (.inr ·=e) (λg b=>?_) λn=>?_
 ·subst b;simp only at h;exact oRE h a
 refine Qk <|AC h0 (λs0=>[(8,ti s0)]) 10551426 (λs0=>[]) 0 30 ?_;intro s0 o u h i p;apply Qa 62;refine Qf λ_ q=>Qo h (λ_ h=>?_) λ_ h=>?_
 ·refine Qu <|q <|Qf λ_ s=>Qk <|Qa 244 ?_;have⟨_,_,_,_,h⟩:=bs2 h;apply Qa 4032;apply Qo h<;>intro _ h
  ·apply Qa 4;apply AG;exact Qx n (i _ (sy h)) 2
  refine Qu <|s <|QJ 228 ?_;exact Qx p (sy h) 16875781
 refine QQ <|Qx m (i _ (sy h)) 0
def Mh (a:(List Str)) (b:(Str->Option Bool)):Option Bool:=(Mg a b).bind λc=>some (decide (c>=0))
instance tU:Spc2 prog 249 Mh (λb c=>[tsl rS b,HL.ty c]) tb:=.mk λ{b c r} h=>by
 refine Fe func249 ntmps249 λd M e a=>?_
 apply Qa 12
 have⟨_,_,h⟩:=bs h
 apply Qa 32
 exact tRE h a
def JI (b:(List Str)) (a:(Str->Option Bool)):Option Bool:=(Mh b (λx0=>UC x0 a)).bind λc=>some (!c)
instance tV:Spc2 prog 211 JI (λc a=>[tsl rS c,HL.ty a]) tb:=.mk λ{c a r} h=>by
 refine Fe func211 ntmps211 λd M e b=>?_
 apply Qa 10
 have⟨_,_,h⟩:=bs h
 apply Qa 32
 exact tRE h b
def Mi (b:AS) (a:Int):Option Bool:=(Dq b.a0 0 (i64.wrap (a - 1))).bind λc=>(opt (c==true) (Dq b.a1 0 (i64.wrap (a - 1))) default).bind λd=>some (c&&d)
instance tW:Spc2 prog 213 Mi (λc a=>[Af.ty c,tptr (rI.cs a)]) tb:=.mk λ{c a r} h=>by
 refine Fe func213 ntmps213 λd M e b=>?_
 apply Qa 18
 have⟨_,_,_,_,h⟩:=bs2 h
 apply Qa 8192
 exact tRE h b
def PJ (b:QL) (a:QL):Option Bool:=some (b.Xj==a.Xj)
instance tX:Spc2 prog 186 PJ (λc a=>[QV.ty c,tptr (QV.cs a)]) tb:=.mk λ{c a r} h=>by
 refine Fe func186 ntmps186 λd M e b=>?_
 apply Qa 18
 apply Qa 64
 exact tRE h b
theorem eU {b:List Qm}:FnOk prog 84 [tsl Qs b] [] (λ_=>[]) (λ_=>CZ 146 [tptr ((rSl Qs).cs b)]):=by
 refine fe func84 ntmps84 λg M h a c H=>?_;refine wp_seq_k (λe d=>?_);refine wr mx [] H (λ_=>.o (Mj (R:=(rSl Qs)) (u:=b) z0)<|.o (Ql .k)<|.n) λ_ a w H=>?_;have H:=H.t1_0 [0];apply d _ _;clear d e;refine wp_seq_k (λ_ f=>?_);refine wr mx [] H (λ_=>.o (UD (.cons z0<|.nil))<|.o (Ql z0)<|.n) λ_ a w H=>?_;have H:=H.t1_0 [1];apply f _ _;apply wp_ret;exact rt undef [] c H (.tmp z0 .nil)
def Ml (a:(List Bool)):Option Lz:=(Qr (λ(s0:Int×Lz)=>if decide (s0.1<(a.length:Int)) then (idx a s0.1).bind λb=>(if b then (rm (s0.2.length+[s0.1].length)).bind λ_=>some (s0.2++[s0.1]) else some s0.2).bind λc=>some (.inl (i64.wrap (s0.1+1),c)) else some (.inr s0.2)) (0,[])).bind λd=>some d
instance tY:Spc1 prog 87 Ml (λf=>[tsl AE f]) (tsl rI):=.mk λ{f r} h=>by
 refine Fe func87 ntmps87 λy M i c=>?_
 apply Qa 4
 apply Qa 6
 apply tNl rI 3
 refine Qf λj k=>?_
 apply Qa 30
 have⟨l,h0,h⟩:=bs h
 have m:∀d e,d=l->To M i 20 [(3,tv e)] [own rI 3 d e] j:=by
  intro d e n;subst n;refine k <|Qa 14 ?_;apply AG;refine AA (by intro _ _ H;exact (H.Xn 1 rfl).pick [0]) ?_;exact oRE h c
 refine Qk <|AT h0 (λs0 a=>[(8,ti s0.1),(3,tv a)]) 2113922 (λs0 a=>[own rI 3 s0.2 a]) 1 (.slice none 0 0) 30 ?_;intro s0 a o z h p q;apply Qa 62;refine Qf λ_ s=>Qo h (λ_ h=>?_) λ_ h=>?_
 ·refine Qu <|s <|Qf λt u=>Qk ?_;have⟨_,_,v,w,h⟩:=bs2 h;apply Qa 1968;apply Qa 246;refine tJ1 (λb=>[(3,tv b)]) 12665345 (λb=>[own rI 3 v b]) 1 t (λb=>?_) λg=>?_
  ·refine u <|QJ 60 ?_;exact Q7 q b (sy h) 8422407
  replace h:=w;apply Qo h<;>intro _ h
  ·have⟨_,_,h⟩:=bs h;refine AB [vo 3 rI 3 (s0.2++[s0.1])] [4] 1840 λx=>?_;cases sj h;exact QN (g (x 3)) 60
  apply Qu;cases sj h;exact QN (g a) 21103373
 refine QQ <|Q7 m a (p _ (sy h)) 32
def GD (a:Q2) (b:Int) (d:Int):Option Lz:=(idx a.old b).bind λe=>(idx a.w b).bind λf=>(Qr (λ(s0:Int×Lz)=>if decide (s0.1<(imin (e.length:Int) (f.length:Int))) then (idx a.old b).bind λg=>(idx g s0.1).bind λh=>(idx h d).bind λc=>(rm (s0.2.length+[c].length)).bind λ_=>some (.inl (i64.wrap (s0.1+1),s0.2++[c])) else some (.inr s0.2)) (0,[])).bind λi=>some i
instance UE:SpcS prog 66 (∀{c d e r},GD c d e=some r->FnOk prog 66 [tptr (Rj.cs c),ti d,ti e] [] (λv=>[own rI 3 r v]) (λv=>tv v)):=.mk λ{c d e r} h=>by
 refine Fe func66 ntmps66 λx M i f=>?_
 apply Qa 28
 apply Qa 30
 apply tNl rI 3
 refine Qf λj k=>?_
 have⟨_,_,_,_,l,h0,h⟩:=bs3 h
 apply Qa 8257536
 have m:∀g b,g=l->To M i 47 [(7,tv b)] [own rI 3 g b] j:=by
  intro g b n;subst n;refine k <|Qa 14 ?_;exact Qp h (·▸AO b [0] f)
 refine Qk <|AT h0 (λs0 a=>[(26,ti s0.1),(7,tv a)]) 34101805186 (λs0 a=>[own rI 3 s0.2 a]) 1 (.slice none 0 0) 126 ?_;intro s0 a o y h p q;apply Qa 254;refine Qf λ_ s=>Qo h (λ_ h=>?_) λ_ h=>?_
 ·refine Qu <|s <|Qf λ_ t=>Qk <|Qa 1012 ?_;have⟨_,_,_,_,u,_,_,_,h⟩:=bs4 h;refine AB [vo 15 rI 3 (s0.2++[u])] [16] 16449536 λw=>?_;refine t <|QJ 508 ?_;exact Q7 q (w 15) (sy h) 484278632713
 refine QQ <|Q7 m a (p _ (sy h)) 16
def MA (a:Int) (b:Int):Option (Int×Int):=some (u64.wrap ((u64.wrap ((u64.wrap ((ishr .u64 a 32) * (ishr .u64 b 32)))+(ishr .u64 (u64.wrap ((u64.wrap ((ishr .u64 a 32) * (iand .u64 b 4294967295)))+(ishr .u64 (u64.wrap ((iand .u64 a 4294967295) * (iand .u64 b 4294967295))) 32))) 32)))+(ishr .u64 (u64.wrap ((iand .u64 (u64.wrap ((u64.wrap ((ishr .u64 a 32) * (iand .u64 b 4294967295)))+(ishr .u64 (u64.wrap ((iand .u64 a 4294967295) * (iand .u64 b 4294967295))) 32))) 4294967295)+(u64.wrap ((iand .u64 a 4294967295) * (ishr .u64 b 32))))) 32)),u64.wrap (a * b))
instance tZ:Spc2 prog 174 MA (λb c=>[tv (.int .u64 b),tv (.int .u64 c)]) (λr=>ttup [tv (.int .u64 r.1),tv (.int .u64 r.2)]):=.mk λ{b c r} h=>by
 refine Fe func174 ntmps174 λd M e a=>?_
 apply Qa 24
 refine Qa 56 ?_ (λ_=>by refine' pr 1 ?_;refine' rx (.p rfl (Ph z0 .k)) 1 ?_;exact rnn)
 refine Qa 120 ?_ (λ_=>by refine' pr 1 ?_;refine' rx (.p rfl (JJ z0 .k dc)) 1 ?_;exact rnn)
 refine Qa 248 ?_ (λ_=>by refine' pr 1 ?_;refine' rx (.p rfl (Ph z0 .k)) 1 ?_;exact rnn)
 refine Qa 504 ?_ (λ_=>by refine' pr 1 ?_;refine' rx (.p rfl (JJ z0 .k dc)) 1 ?_;exact rnn)
 apply Qa 2032
 refine Qa 31360 ?_ (λ_=>by refine' pr 4 ?_;refine' rx (.p rfl (JJ z0 .k dc)) 2 ?_;exact rnn)
 refine Qa 1016 ?_ (λ_=>by refine' pr 1 ?_;refine' rx (.p rfl (Ph z0 .k)) 1 ?_;exact rnn)
 refine Qa 2008 ?_ (λ_=>by refine' pr 1 ?_;refine' rx (.p rfl (JJ z0 .k dc)) 1 ?_;exact rnn)
 apply Qa 7104
 refine Qa 49664 ?_ (λ_=>by refine' pr 6 ?_;refine' rx (.p rfl (JJ z0 .k dc)) 2 ?_;exact rnn)
 apply Qa 48
 exact tRE h a
def MB (b:Int) (c:Int):Option (Int×Int):=(MA b c).bind λa=>some (a.1,a.2)
instance tQ:Spc2 prog 123 MB (λb c=>[tv (.int .u64 b),tv (.int .u64 c)]) (λr=>ttup [tv (.int .u64 r.1),tv (.int .u64 r.2)]):=.mk λ{b c r} h=>by
 refine Fe func123 ntmps123 λe M f a=>?_
 apply Qa 24
 refine Qf λ_ d=>?_
 apply eV
 apply Qu
 apply d
 have⟨_,_,h⟩:=bs h
 apply Qa 384
 apply Qa 24
 exact tRE h a
def IS (a:Lz):Option Int:=if decide ((a.length:Int)<1) then none else (idx a 0).bind λb=>(Qr (λ(s0:Int×Int)=>if decide (s0.1<(a.length:Int)) then (idx a s0.1).bind λc=>some (.inl (i64.wrap (s0.1+1),imin s0.2 c)) else some (.inr s0.2)) (1,b)).bind λd=>some d
instance eW:Spc1 prog 130 IS (λc=>[tsl rI c]) ti:=.mk λ{c r} h=>by
 refine Fe func130 ntmps130 λp M d a=>?_
 apply Qa 4
 refine tIfs h 24 (λ_ h=>?_) λ_ h=>?_
 ·cases h
 have⟨_,_,e,h0,h⟩:=bs2 h
 apply Qa 80
 refine Qf λf g=>?_
 apply Qa 14
 have i:∀b,b=e->To M d 25 [(3,ti b)] [] f:=by
  intro b j;subst j;refine g <|Qa 4 ?_;exact tRE h a
 refine Qk <|AC h0 (λs0=>[(4,ti s0.1),(3,ti s0.2)]) 65665 (λs0=>[]) 0 14 ?_;intro s0 o q h k l;refine Qf λ_ m=>Qa 240 ?_;apply Qo h<;>intro _ h
 ·refine Qu <|m <|Qf λ_ n=>Qk ?_;have⟨_,_,h⟩:=bs h;apply QJ 1664;refine n <|QJ 56 ?_;exact Qx l (sy h) 14
 refine QQ <|Qx i (k _ (sy h)) 8
def JK (a:(List (List Lz))) (b:(List (List Lz))) (c:((List Lz)->(List Lz)->Option Bool)):Option Bool:=if (a.length:Int) !=(b.length:Int) then some false else (Qr (λ(s0:Int)=>((if decide (s0<(a.length:Int)) then (idx a s0).bind λd=>(idx b s0).bind λe=>(c d e).bind λf=>if !f then some (.inr (.inr false)) else some (.inl (i64.wrap (s0+1))) else some (.inr (.inl ()))):Option (Int⊕(Unit⊕Bool)))) 0).bind λg=>(match g with | .inl _=>(some true) | .inr h=>some h)
instance uA:Spc3 prog 37 (λ(a:(List (List Lz))) (b:(List (List Lz))) (c:((List Lz)->(List Lz)->Option Bool))=>JK a b c) (λ(a:(List (List Lz))) (b:(List (List Lz))) (c:((List Lz)->(List Lz)->Option Bool))=>[tsl (rSl (rSl rI)) a,tsl (rSl (rSl rI)) b,rF96.ty c]) tb:=.mk λ{a b c r} h=>by
 refine Fe func37 ntmps37 λu M k d=>?_
 apply Qa 28
 refine tIfs h 480 (λ_ h=>?_) λ_ h=>?_
 ·apply Qa 2
  exact tRE h d
 refine Qf λl m=>?_
 apply Qa 206
 have⟨f,h0,h⟩:=bs h
 have n:∀g,(.inl g)=f->To M k 32 [] [] l:=by
  intro g e;subst e;simp only at h;refine m <|Qa 2 ?_;exact tRE h d
 refine tJr (λi=>[(6,tb i)]) 1 (λ_=>[]) 0 (.inr ·=f) (λi e=>?_) λp=>?_
 ·subst e;simp only at h;exact oRE h d
 refine Qk <|AC h0 (λs0=>[(17,ti s0)]) 1621115266 (λs0=>[]) 0 62 ?_;intro s0 o v h j q;apply Qa 126;refine Qf λ_ s=>Qo h (λ_ h=>?_) λ_ h=>?_
 ·refine Qu <|s <|Qf λ_ t=>Qk ?_;have⟨_,_,_,_,_,_,h⟩:=bs3 h;apply Qa 4016;apply Qa 8096;apply Qa 7968;apply Qo h<;>intro _ h
  ·apply Qa 2;apply AG;exact Qx p (j _ (sy h)) 2
  refine Qu <|t <|QJ 244 ?_;exact Qx q (sy h) 2701165317
 refine QQ <|Qx n (j _ (sy h)) 0
