/- The walk. No condition. -/
import Derived.Test.YtohojolgolinoaaGreatDoorLib
import Derived.Test.YtohojolgolinoaaGreatDoorBaseI
set_option linter.all false
open List Go.Proofs.Tryz Go.IntKind
namespace Go.Proofs.YtohojolgolinoaaGreatDoor
noncomputable section
open Go.Sim
set_option maxRecDepth 100000
set_option maxHeartbeats 4000000
def Fl (c:Int) (d:Int) (a:Int) (b:Int):Option Bool:=some (((decide (c>=a))&&(decide (c<=d)))&&(decide (d<=b)))
instance rB:Spc4 prog 222 Fl (λc d a b=>[ti c,ti d,ti a,ti b]) tb:=.mk λ{c d a b r} h=>by
 refine Fe func222 ntmps222 λf M g e=>?_
 apply Qa 60
 apply Qa 16384
 exact tRE h e
def Gb (a:Int->Option Str) (b:Int):Option Str:=if decide (b<0) then (a (i64.wrap (0 - b))).bind λc=>(cat (([45]:Str).length+c.length)).bind λ_=>some (([45]:Str)++c) else if decide (b<10) then some (E9 [u8.wrap (i64.wrap (48+b))]) else (a (i64.wrap (Int.tdiv b 10))).bind λd=>(cat (d.length+(E9 [u8.wrap (i64.wrap (48+(Int.tmod b 10)))]).length)).bind λ_=>some (d++(E9 [u8.wrap (i64.wrap (48+(Int.tmod b 10)))]))
theorem eJ {c:Int->Option Str} (b:∀(d:Int) (r:Str),c d=some r->FnOk prog 260 [ti d] [] (λ_=>[]) (λ_=>tv (.string (sB r)))) {d:Int} {r:Str} (h:Gb c d=some r):FnOk prog 260 [ti d] [] (λ_=>[]) (λ_=>tv (.string (sB r))):=by
 unfold Gb at h;refine fe func260 ntmps260 λp M q a e H=>?_;refine sr mx [] H (λ_=>.o (Ql .k)<|.n) λ_ a w H=>?_;have H:=H.t1_0 [1];refine wp_seq_k (λ_ f=>?_);refine sr mx [] H (λ_=>.q 0 rfl<|.o (JA z0 .k)<|.n) λ_ a w H=>?_;have H:=H.to [1,2] [_,_] [] rfl rfl;refine wi H h (λg h=>?_) (λg h=>?_)
 ·refine wp_seq_k (λ_ i=>?_);have⟨s,h0,t,j,h⟩:=bs2 h;refine wr mx [] H (λ_=>.q 1 rfl<|.o (Tx z0)<|.o (QO cal (b _ _ h0) (.cons (.of z0)<|.nil))<|.o (Pb .k z0 j)<|.o (Ql z0)<|.n) λ_ a w H=>?_;have H:=H.t1_0 [4];apply i _ _;exact r0 h (·▸r1 e H (.tmp z0 .nil))
 refine wp_skip (f _ _ ?_);refine wp_seq_k (λ_ k=>?_);refine sr mx [] H (λ_=>.q 1 rfl<|.o (JA z0 .k)<|.n) λ_ a w H=>?_;have H:=H.to [1,3] [_,_] [] rfl rfl;refine wi H h (λl h=>?_) (λl h=>?_)
 ·refine sr mx [] H (λ_=>.q 1 rfl<|.o (MN .k z0)<|.o (JB ud3 ud5 z0)<|.o (Gd (R:=(rInt .u8)) (us:=[u8.wrap (i64.wrap ((48:Int)+d))]) IM tok5 (.cons z0<|.nil _) rfl (leb rfl))<|.o (Tz IM ud5 ud9 z0)<|.o (Ql z0)<|.n) λ_ a w H=>?_;have H:=H.t1_0 [5];exact r0 h (·▸r1 e H (.tmp z0 .nil))
 refine wp_skip (k _ _ ?_);refine wp_seq_k (λ_ m=>?_);have⟨u,n,v,o,h⟩:=bs2 h;refine wr mx [] H (λ_=>.q 1 rfl<|.o (Tq z0 .k dc)<|.o (QO cal (b _ _ n) (.cons (.of z0)<|.nil))<|.q 4 rfl<|.o (T3 z0 .k dc)<|.o (MN .k z0)<|.o (JB ud3 ud5 z0)<|.o (Gd (R:=(rInt .u8)) (us:=[u8.wrap (i64.wrap ((48:Int)+(Int.tmod d (10:Int))))]) IM tok5 (.cons z0<|.nil _) rfl (leb rfl))<|.o (Tz IM ud5 ud9 z0)<|.o (Pb z6 z0 o)<|.o (Ql z0)<|.n) λ_ a w H=>?_;have H:=H.t1_0 [10];apply m _ _;exact r0 h (·▸r1 e H (.tmp z0 .nil))
def Ht:Nat->Int->Option Str
 | 0=>λ_=>none
 | n+1=>Gb (Ht n)
def FA (b:QA) (a:Str):Option Int:=(Qr (λ(s0:Int)=>((if decide (s0<(b.Xb.length:Int)) then (idx b.Xb s0).bind λc=>if c.Xj==a then some (.inr (.inr s0)) else some (.inl (i64.wrap (s0+1))) else some (.inr (.inl ()))):Option (Int⊕(Unit⊕Int)))) 0).bind λd=>(match d with | .inl _=>(some (-1)) | .inr e=>some e)
instance rC:Spc2 prog 105 FA (λd a=>[Qq.ty d,tv (.string (sB a))]) ti:=.mk λ{d a r} h=>by
 refine Fe func105 ntmps105 λt M j b=>?_
 apply Qa 18
 refine Qf λk l=>?_
 apply Qa 14
 have⟨e,h0,h⟩:=bs h
 have m:∀f,(.inl f)=e->To M j 22 [] [] k:=by
  intro f c;subst c;simp only at h;refine l <|Qa 2 ?_;exact tRE h b
 refine tJr (λg=>[(4,ti g)]) 1 (λ_=>[]) 0 (.inr ·=e) (λg c=>?_) λn=>?_
 ·subst c;simp only at h;exact oRE h b
 refine Qk <|AC h0 (λs0=>[(5,ti s0)]) 65921 (λs0=>[]) 0 14 ?_;intro s0 o u h i p;refine Qf λ_ q=>Qa 480 ?_;apply Qo h<;>intro _ h
 ·refine Qu <|q <|Qf λ_ s=>Qk ?_;have⟨_,_,h⟩:=bs h;apply Qa 7424;apply Qo h<;>intro _ h
  ·apply Qa 4;apply AG;exact Qx n (i _ (sy h)) 2
  refine Qu <|s <|QJ 104 ?_;exact Qx p (sy h) 14
 refine QQ <|Qx m (i _ (sy h)) 0
def MO (c:Qc) (a:Int) (b:Int):Option Bool:=(if ((decide (a<0))||(decide (a>=(c.Xa.length:Int))))||(decide (b<0)) then some false else (idx c.Xa a).bind λd=>some (decide (b<(d.Xb.length:Int))))
instance rD:Spc3 prog 115 MO (λd b a=>[Qb.ty d,ti b,ti a]) tb:=.mk λ{d b a r} h=>by
 refine Fe func115 ntmps115 λe M f c=>?_
 apply Qa 50
 refine tIfs h 122880 (λ_ h=>?_) λ_ h=>?_
 ·apply Qa 2
  exact tRE h c
 have⟨_,_,h⟩:=bs h
 apply Qa 1024
 exact tRE h c
def LA (a:Lz):Option Bool:=(Qr (λ(s0:Int)=>((if decide (s0<(a.length:Int)) then (idx a s0).bind λb=>(opt ((decide (b<0))==false) (idx a s0) default).bind λc=>(if (decide (b<0))||(decide (c>65536)) then some (.inr (.inr false)) else some (.inl (i64.wrap (s0+1)))) else some (.inr (.inl ()))):Option (Int⊕(Unit⊕Bool)))) 0).bind λd=>(match d with | .inl _=>(some true) | .inr e=>some e)
instance rE:Spc1 prog 111 LA (λc=>[tsl rI c]) tb:=.mk λ{c r} h=>by
 refine Fe func111 ntmps111 λs M i a=>?_
 apply Qa 4
 refine Qf λj k=>?_
 apply Qa 6
 have⟨d,h0,h⟩:=bs h
 have l:∀e,(.inl e)=d->To M i 22 [] [] j:=by
  intro e b;subst b;simp only at h;refine k <|Qa 2 ?_;exact tRE h a
 refine tJr (λf=>[(2,tb f)]) 1 (λ_=>[]) 0 (.inr ·=d) (λf b=>?_) λm=>?_
 ·subst b;simp only at h;exact oRE h a
 refine Qk <|AC h0 (λs0=>[(3,ti s0)]) 385 (λs0=>[]) 0 6 ?_;intro s0 o t h g n;refine Qf λ_ p=>Qa 112 ?_;apply Qo h<;>intro _ h
 ·refine Qu <|p <|Qf λ_ q=>Qk ?_;have⟨_,_,_,_,h⟩:=bs2 h;apply Qa 53248;apply Qo h<;>intro _ h
  ·apply Qa 2;apply AG;exact Qx m (g _ (sy h)) 2
  refine Qu <|q <|QJ 40 ?_;exact Qx n (sy h) 6
 refine QQ <|Qx l (g _ (sy h)) 0
def Ku (b:Int) (a:(List QK)):Option (List Bool):=(mk b false).bind λc=>(Qr (λ(s0:Int×List Bool)=>if decide (s0.1<(a.length:Int)) then (idx a s0.1).bind λd=>(if decide (d.B>=0) then (idx a s0.1).bind λe=>(setAt s0.2 e.B true).bind λf=>some f else some s0.2).bind λg=>some (.inl (i64.wrap (s0.1+1),g)) else some (.inr s0.2)) (0,c)).bind λh=>some h
instance rF:Spc2 prog 112 Ku (λd e=>[ti d,tsl BL e]) (tsl AE):=.mk λ{d e r} h=>by
 refine Fe func112 ntmps112 λy M g b=>?_
 apply Qa 12
 have⟨i,_,j,h0,h⟩:=bs2 h
 refine QU [vo 1 AE 4 i] [2] 44 λa=>?_
 refine Qf λk l=>?_
 apply Qa 30
 have m:∀c,c=j->To M g 29 [(5,tv (a 1))] [own AE 4 c (a 1)] k:=by
  intro c n;subst n;refine l <|Qa 14 ?_;apply AG;refine AA (by intro _ _ H;exact (H.Xn 1 rfl).pick [0]) ?_;exact oRE h b
 refine Qk <|AC h0 (λs0=>[(6,ti s0.1)]) 82433 (λs0=>[own AE 4 s0.2 (a 1)]) 1 26 ?_;intro s0 o z h p q;refine Qf λ_ s=>Qa 240 ?_;apply Qo h<;>intro _ h
 ·refine Qu <|s <|Qf λt u=>Qk ?_;have⟨_,_,v,w,h⟩:=bs2 h;apply Qa 1856;refine tJ0 [] 16259 [own AE 4 v (a 1)] 1 t ?_ λf=>?_
  ·refine u <|QJ 56 ?_;exact Qx q (sy h) 14
  replace h:=w;apply Qo h<;>intro _ h
  ·have⟨_,_,x,_,h⟩:=bs2 h;refine AB [v0 (own AE 4 x (a 1))] [8] 3586 λA=>?_;cases sj h;exact QN f 28
  apply Qu;cases sj h;exact QN f 28
 refine QQ <|Qx m (p _ (sy h)) 8
def Fs (b:Qw) (a:Qg):Option Int:=if decide (a.forward>0) then (idx b.l a.edge).bind λc=>(idx b.flow a.edge).bind λd=>some (i64.wrap (c.Hi - d)) else (idx b.flow a.edge).bind λe=>(idx b.l a.edge).bind λf=>some (i64.wrap (e - f.Lo))
instance eK:Spc2 prog 169 Fs (λb c=>[tptr (HD.cs b),Qv.ty c]) ti:=.mk λ{b c r} h=>by
 refine Fe func169 ntmps169 λd M e a=>?_
 apply Qa 10
 refine tIfs h 56 (λ_ h=>?_) λ_ h=>?_
 ·have⟨_,_,_,_,h⟩:=bs2 h
  apply Qa 524288
  exact tRE h a
 have⟨_,_,_,_,h⟩:=bs2 h
 apply Qa 524288
 exact tRE h a
def Pc (c:Qg) (b:Int) (a:Qw):Option (Int×Qw):=(Fs (Qw.mk a.n a.l a.flow a.arcs) c).bind λd=>some (imin b d,Qw.mk a.n a.l a.flow a.arcs)
instance eL:SpcS prog 171 (∀{d e a f c b r},Pc f c b=some r->FnOk prog 171 [Qv.ty f,tv d,tptr (rVal.cs e)] [box (rI.cs c) d,bxN b.n b.l a b.arcs e,own rI 3 b.flow a] (λ_=>[box (rI.cs r.1) d,bxN (r.2).n (r.2).l a (r.2).arcs e,own rI 3 (r.2).flow a]) (λ_=>ttup [])):=.mk λ{d e a f c b r} h=>by
 refine Fe func171 ntmps171 λj M k g=>?_
 apply Qa 26
 have⟨i,h0,h⟩:=bs h
 refine AB [v0 (box (rI.cs (imin c i)) d)] [6] 384 (λl=>?_) (λ_=>by refine' pr 1 ?_;refine' rx (.p rfl (Ck SG z3)) 1 ?_;refine' rx (.u [1,2] rfl rfl (CY [bxN b.n b.l a b.arcs e,own rI 3 b.flow a] cal (eK.ok h0) (.cons (.boxP 2 z1 (.head _) (.tail _ (.head _)) rfl)<|.cons (.of z0)<|.nil) (λ_=>Ah) (λ_=>EY (x:=undef)))) 2 ?_;exact rnn)
 cases sj h
 exact Fo undef [2,0,1] g
def Pd (c:Qg) (a:Qw) (b:Int):Option (Qw×Int):=(idx a.flow c.edge).bind λd=>(setAt a.flow c.edge (i64.wrap (d+(i64.wrap (c.forward * b))))).bind λe=>some (Qw.mk a.n a.l e a.arcs,b)
instance eM:SpcS prog 172 (∀{d a e f b c r},Pd f b c=some r->FnOk prog 172 [Qv.ty f,tptr (rVal.cs d),tv e] [bxN b.n b.l a b.arcs d,own rI 3 b.flow a,box (rI.cs c) e] (λ_=>[bxN (r.1).n (r.1).l a (r.1).arcs d,own rI 3 (r.1).flow a,box (rI.cs r.2) e]) (λ_=>ttup [])):=.mk λ{d a e f b c r} h=>by
 refine Fe func172 ntmps172 λj M k g=>?_
 apply Qa 26
 have⟨_,_,i,_,h⟩:=bs2 h
 refine AB [v0 (own rI 3 i a)] [15] 196624 (λl=>?_) (λ_=>by refine' rx (.p rfl (Ck SG z1)) 14 ?_;exact rnn)
 cases sj h
 exact Fo undef [0,2,1] g
def MP (a:(List Str)) (b:(List Str)):Option Bool:=if (a.length:Int) !=(b.length:Int) then some false else (Qr (λ(s0:Int)=>((if decide (s0<(a.length:Int)) then (idx a s0).bind λc=>(idx b s0).bind λd=>if c !=d then some (.inr (.inr false)) else some (.inl (i64.wrap (s0+1))) else some (.inr (.inl ()))):Option (Int⊕(Unit⊕Bool)))) 0).bind λe=>(match e with | .inl _=>(some true) | .inr f=>some f)
instance rG:Spc2 prog 269 MP (λb c=>[tsl rS b,tsl rS c]) tb:=.mk λ{b c r} h=>by
 refine Fe func269 ntmps269 λt M j a=>?_
 apply Qa 12
 refine tIfs h 224 (λ_ h=>?_) λ_ h=>?_
 ·apply Qa 2
  exact tRE h a
 refine Qf λk l=>?_
 apply Qa 108
 have⟨e,h0,h⟩:=bs h
 have m:∀f,(.inl f)=e->To M j 26 [] [] k:=by
  intro f d;subst d;simp only at h;refine l <|Qa 2 ?_;exact tRE h a
 refine tJr (λg=>[(4,tb g)]) 1 (λ_=>[]) 0 (.inr ·=e) (λg d=>?_) λn=>?_
 ·subst d;simp only at h;exact oRE h a
 refine Qk <|AC h0 (λs0=>[(13,ti s0)]) 10551426 (λs0=>[]) 0 30 ?_;intro s0 o u h i p;apply Qa 62;refine Qf λ_ q=>Qo h (λ_ h=>?_) λ_ h=>?_
 ·refine Qu <|q <|Qf λ_ s=>Qk <|Qa 244 ?_;have⟨_,_,_,_,h⟩:=bs2 h;apply Qa 31232;apply Qo h<;>intro _ h
  ·apply Qa 2;apply AG;exact Qx n (i _ (sy h)) 2
  refine Qu <|s <|QJ 116 ?_;exact Qx p (sy h) 16875781
 refine QQ <|Qx m (i _ (sy h)) 0
def Ft (a:Lz) (b:Lz):Option Bool:=if (a.length:Int) !=(b.length:Int) then some false else (Qr (λ(s0:Int)=>((if decide (s0<(a.length:Int)) then (idx a s0).bind λc=>(idx b s0).bind λd=>if c !=d then some (.inr (.inr false)) else some (.inl (i64.wrap (s0+1))) else some (.inr (.inl ()))):Option (Int⊕(Unit⊕Bool)))) 0).bind λe=>(match e with | .inl _=>(some true) | .inr f=>some f)
instance rH:Spc2 prog 41 Ft (λb c=>[tsl rI b,tsl rI c]) tb:=.mk λ{b c r} h=>by
 refine Fe func41 ntmps41 λt M j a=>?_
 apply Qa 12
 refine tIfs h 224 (λ_ h=>?_) λ_ h=>?_
 ·apply Qa 2
  exact tRE h a
 refine Qf λk l=>?_
 apply Qa 108
 have⟨e,h0,h⟩:=bs h
 have m:∀f,(.inl f)=e->To M j 26 [] [] k:=by
  intro f d;subst d;simp only at h;refine l <|Qa 2 ?_;exact tRE h a
 refine tJr (λg=>[(4,tb g)]) 1 (λ_=>[]) 0 (.inr ·=e) (λg d=>?_) λn=>?_
 ·subst d;simp only at h;exact oRE h a
 refine Qk <|AC h0 (λs0=>[(13,ti s0)]) 10551426 (λs0=>[]) 0 30 ?_;intro s0 o u h i p;apply Qa 62;refine Qf λ_ q=>Qo h (λ_ h=>?_) λ_ h=>?_
 ·refine Qu <|q <|Qf λ_ s=>Qk <|Qa 244 ?_;have⟨_,_,_,_,h⟩:=bs2 h;apply Qa 31232;apply Qo h<;>intro _ h
  ·apply Qa 2;apply AG;exact Qx n (i _ (sy h)) 2
  refine Qu <|s <|QJ 116 ?_;exact Qx p (sy h) 16875781
 refine QQ <|Qx m (i _ (sy h)) 0
def MR (a:Qe) (b:Qe):Option Bool:=(opt (((((((a.Xj==b.Xj)&&(a.Of==b.Of))&&(a.Up==b.Up))&&(a.Xi==b.Xi))&&(a.Lo==b.Lo))&&(a.Hi==b.Hi))==true) (MP a.Words b.Words) default).bind λc=>(opt ((((((((a.Xj==b.Xj)&&(a.Of==b.Of))&&(a.Up==b.Up))&&(a.Xi==b.Xi))&&(a.Lo==b.Lo))&&(a.Hi==b.Hi))&&c)==true) (Ft a.Xf b.Xf) default).bind λd=>some ((((((((a.Xj==b.Xj)&&(a.Of==b.Of))&&(a.Up==b.Up))&&(a.Xi==b.Xi))&&(a.Lo==b.Lo))&&(a.Hi==b.Hi))&&c)&&d)
instance rJ:Spc2 prog 246 MR (λb c=>[Qd.ty b,Qd.ty c]) tb:=.mk λ{b c r} h=>by
 refine Fe func246 ntmps246 λd M e a=>?_
 apply Qa 6
 have⟨_,_,_,_,h⟩:=bs2 h
 apply Qa 36028797018963968
 exact tRE h a
def T4 (b:QL) (a:(QL->Option Bool)):Option Bool:=(a b).bind λc=>some (!c)
instance rK:Spc2 prog 214 T4 (λc a=>[QV.ty c,tptr (HK.cs a)]) tb:=.mk λ{c a r} h=>by
 refine Fe func214 ntmps214 λd M e b=>?_
 apply Qa 18
 have⟨_,_,h⟩:=bs h
 apply Qa 32
 exact tRE h b
def MT (a:(List QL)) (b:(QL->Option Bool)):Option Int:=(Qr (λ(s0:Int)=>((if decide (s0<(a.length:Int)) then (idx a s0).bind λc=>(b c).bind λd=>if d then some (.inr (.inr s0)) else some (.inl (i64.wrap (s0+1))) else some (.inr (.inl ()))):Option (Int⊕(Unit⊕Int)))) 0).bind λe=>(match e with | .inl _=>(some (-1)) | .inr f=>some f)
instance rL:Spc2 prog 220 MT (λc d=>[tsl QV c,HK.ty d]) ti:=.mk λ{c d r} h=>by
 refine Fe func220 ntmps220 λt M j a=>?_
 apply Qa 12
 refine Qf λk l=>?_
 apply Qa 60
 have⟨e,h0,h⟩:=bs h
 have m:∀f,(.inl f)=e->To M j 19 [] [] k:=by
  intro f b;subst b;simp only at h;refine l <|Qa 2 ?_;exact tRE h a
 refine tJr (λg=>[(4,ti g)]) 1 (λ_=>[]) 0 (.inr ·=e) (λg b=>?_) λn=>?_
 ·subst b;simp only at h;exact oRE h a
 refine Qk <|AC h0 (λs0=>[(8,ti s0)]) 10551426 (λs0=>[]) 0 30 ?_;intro s0 o u h i p;apply Qa 62;refine Qf λ_ q=>Qo h (λ_ h=>?_) λ_ h=>?_
 ·refine Qu <|q <|Qf λ_ s=>Qk <|Qa 244 ?_;have⟨_,_,_,_,h⟩:=bs2 h;apply Qa 4032;apply Qo h<;>intro _ h
  ·apply Qa 4;apply AG;exact Qx n (i _ (sy h)) 2
  refine Qu <|s <|QJ 228 ?_;exact Qx p (sy h) 16875781
 refine QQ <|Qx m (i _ (sy h)) 0
def JC (a:(List QL)) (b:(QL->Option Bool)):Option Bool:=(MT a b).bind λc=>some (decide (c>=0))
instance rM:Spc2 prog 185 JC (λb c=>[tsl QV b,HK.ty c]) tb:=.mk λ{b c r} h=>by
 refine Fe func185 ntmps185 λd M e a=>?_
 apply Qa 12
 have⟨_,_,h⟩:=bs h
 apply Qa 32
 exact tRE h a
def MU (b:(List QL)) (a:(QL->Option Bool)):Option Bool:=(JC b (λx0=>T4 x0 a)).bind λc=>some (!c)
instance rN:Spc2 prog 182 MU (λc a=>[tsl QV c,HK.ty a]) tb:=.mk λ{c a r} h=>by
 refine Fe func182 ntmps182 λd M e b=>?_
 apply Qa 10
 have⟨_,_,h⟩:=bs h
 apply Qa 32
 exact tRE h b
def PA (a:(List Str)):Option Str:=(Qr (λ(s0:Int)=>((if decide (s0<(a.length:Int)) then (idx a s0).bind λb=>if b !=([]:Str) then some (.inr (.inr b)) else some (.inl (i64.wrap (s0+1))) else some (.inr (.inl ()))):Option (Int⊕(Unit⊕Str)))) 0).bind λc=>(match c with | .inl _=>(some ([]:Str)) | .inr d=>some d)
instance rO:Spc1 prog 255 PA (λa=>[tsl rS a]) (λr=>tv (.string (sB r))):=.mk λ{a r} h=>by
 refine Fe func255 ntmps255 λs M i b=>?_
 apply Qa 4
 apply Qa 6
 refine Qf λj k=>?_
 apply Qa 30
 have⟨d,h0,h⟩:=bs h
 have l:∀e,(.inl e)=d->To M i 18 [(3,tv (.string (sB ([]:Str))))] [] j:=by
  intro e c;subst c;simp only at h;refine k <|Qa 4 ?_;exact tRE h b
 refine tJr (λf=>[(2,tv (.string (sB f)))]) 1 (λ_=>[]) 0 (.inr ·=d) (λf c=>?_) λm=>?_
 ·subst c;simp only at h;exact oRE h b
 refine Qk <|AC h0 (λs0=>[(8,ti s0),(3,tv (.string (sB ([]:Str))))]) 2113922 (λs0=>[]) 0 30 ?_;intro s0 o t h g n;apply Qa 62;refine Qf λ_ p=>Qo h (λ_ h=>?_) λ_ h=>?_
 ·refine Qu <|p <|Qf λ_ q=>Qk ?_;have⟨_,_,h⟩:=bs h;apply Qa 488;apply Qa 504;apply Qo h<;>intro _ h
  ·apply Qa 4;apply AG;exact Qx m (g _ (sy h)) 2
  refine Qu <|q <|QJ 228 ?_;exact Qx n (sy h) 16810757
 refine QQ <|Qx l (g _ (sy h)) 32
def Ho (a:Str):Option Str:=(PA [a,([45]:Str)]).bind λb=>some b
instance rP:Spc1 prog 218 Ho (λb=>[tv (.string (sB b))]) (λr=>tv (.string (sB r))):=.mk λ{b r} h=>by
 refine Fe func218 ntmps218 λc M d a=>?_
 apply Qa 4
 have⟨_,_,h⟩:=bs h
 apply Qa 16
 exact tRE h a
def JD {S:Type} (Y:S->Int×Qm->Option (S⊕S)) (b:S) (a:List Qm):Option (S⊕S):=Qr (λ(s0:Int×S)=>((if decide (s0.1>=0) then (idx a s0.1).bind λc=>(Y s0.2 (s0.1,c)).bind λd=>(match d with | .inl s3=>(some (.inl (i64.wrap (s0.1 - 1),s3))) | .inr s3=>some (.inr (.inr s3))) else some (.inr (.inl s0.2))):Option ((Int×S)⊕(S⊕S)))) (i64.wrap ((a.length:Int) - 1),b)
def Dh (a:Bool) (b:Int):Option Int:=if a then some b else some 0
instance rR:Spc2 prog 33 Dh (λa c=>[tb a,ti c]) ti:=.mk λ{a c r} h=>by
 refine Fe func33 ntmps33 λd M e b=>?_
 apply Qa 12
 refine tIfs h 10 (λ_ h=>?_) λ_ h=>?_
 ·apply Qa 4
  exact tRE h b
 apply Qa 2
 exact tRE h b
def JE (b:Int) (a:Qe):Option Int:=(Dh ((decide (b<a.Lo))||(decide (b>a.Hi))) 5).bind λc=>some c
instance T5:Spc2 prog 85 JE (λc a=>[ti c,tptr (Qd.cs a)]) ti:=.mk λ{c a r} h=>by
 refine Fe func85 ntmps85 λd M e b=>?_
 apply Qa 12
 have⟨_,_,h⟩:=bs h
 apply Qa 4096
 exact tRE h b
def Ge (f:Int) (a:Q6) (b:(List Bool)) (c:Int) (d:Q6):Option (Bool×(List Bool)×Q6):=(Qr (λ(s0:Int×List Bool)=>if decide (s0.1<(b.length:Int)) then (idx s0.2 s0.1).bind λe=>(opt (e==false) (idx a.L s0.1) default).bind λg=>(opt (((e==false)&&(g==true))&&((decide (f>=c))==false)) (idx d.L s0.1) default).bind λh=>(setAt s0.2 s0.1 (e||(g&&((decide (f>=c))||h)))).bind λi=>some (.inl (i64.wrap (s0.1+1),i)) else some (.inr s0.2)) (0,b)).bind λj=>some (true,j,d)
instance eN:SpcS prog 134 (∀{f a g i b d e c r},Ge i b d e c=some r->FnOk prog 134 [ti i,Q8.ty b,tv f,tptr (rI.cs e),tv g] [box (rVal.cs a) f,own AE 4 d a,box (Q8.cs c) g] (λ_=>[box (rVal.cs a) f,own AE 4 r.2.1 a,box (Q8.cs r.2.2) g]) (λ_=>tb r.1)):=.mk λ{f a g i b d e c r} h=>by
 refine Fe func134 ntmps134 λz M A j=>?_
 apply Qa 234
 refine Qf λm n=>?_
 apply Qa 510
 have⟨p,h0,h⟩:=bs h
 refine tJp (λ_=>[]) 1159 (λk=>[own AE 4 k a]) 65666 m (·=p) (λk q=>?_) λs=>?_
 ·subst q
  apply n
  apply Qa 14
  exact Qp h (·▸AO undef [0,1,2] j)
 apply Qk
 refine AC h0 (λs0=>[(11,ti s0.1)]) 266420355 (λs0=>[own AE 4 s0.2 a]) 65666 508 ?_
 intro s0 o B h t u
 apply Qa 510
 refine Qf λ_ v=>?_
 apply Qo h<;>intro _ h
 ·apply Qu
  apply v
  refine Qf λ_ w=>?_
  apply Qk
  apply Qa 2036
  have⟨_,_,_,x,_,l,y,_,h⟩:=bs4 h
  refine AB [v0 (own AE 4 y a)] [23] 2130706442 (λC=>?_) (λ_=>by refine' pr 8 ?_;refine' rx (.g rfl rfl bq1 (λhc=>eO (xs:=b.L) HM tok4 z11 (.cond z0 hc) rfl (Dm x hc))) 7 ?_;refine' rx (.gu [2] rfl rfl rfl (.c 1 rfl) (λhc=>MV (L:=c.L) HM tok4 rfl z23 (.cond z0 hc) rfl (Dm l hc))) 0 ?_;refine' rx (.gu [2] rfl rfl rfl (.c 2 rfl) (λhc=>T6 (o:=0) (L:=c.L) tok4 rfl (.cond z0 hc) rfl (Dm l hc))) 5 ?_;exact rnn)
  apply w
  apply QJ 2044
  refine AA (λ_ _ H=>(H.pick [3,0,4,5,6,7,8]).Xk [0,2,1] rfl) ?_
  exact Qx u (sy h) 254
 apply QQ
 exact Qx s (t _ (sy h)) 320
def MW (a:Int):Option Bool:=some (decide (a>62))
instance rU:Spc1 prog 65 MW (λb=>[ti b]) tb:=.mk λ{b r} h=>by
 refine Fe func65 ntmps65 λc M d a=>?_
 apply Qa 4
 apply Qa 8
 exact tRE h a
def F9 (a:Int):Option Bool:=some ((decide (a<(-1099511627776)))||(decide (a>1099511627776)))
instance rV:Spc1 prog 127 F9 (λb=>[ti b]) tb:=.mk λ{b r} h=>by
 refine Fe func127 ntmps127 λc M d a=>?_
 apply Qa 4
 apply Qa 128
 exact tRE h a
def JF (a:(List Lz)) (b:(List Lz)) (c:(Lz->Lz->Option Bool)):Option Bool:=if (a.length:Int) !=(b.length:Int) then some false else (Qr (λ(s0:Int)=>((if decide (s0<(a.length:Int)) then (idx a s0).bind λd=>(idx b s0).bind λe=>(c d e).bind λf=>if !f then some (.inr (.inr false)) else some (.inl (i64.wrap (s0+1))) else some (.inr (.inl ()))):Option (Int⊕(Unit⊕Bool)))) 0).bind λg=>(match g with | .inl _=>(some true) | .inr h=>some h)
instance rW:Spc3 prog 39 JF (λb c d=>[tsl (rSl rI) b,tsl (rSl rI) c,rF63.ty d]) tb:=.mk λ{b c d r} h=>by
 refine Fe func39 ntmps39 λu M k a=>?_
 apply Qa 28
 refine tIfs h 480 (λ_ h=>?_) λ_ h=>?_
 ·apply Qa 2
  exact tRE h a
 refine Qf λl m=>?_
 apply Qa 206
 have⟨f,h0,h⟩:=bs h
 have n:∀g,(.inl g)=f->To M k 32 [] [] l:=by
  intro g e;subst e;simp only at h;refine m <|Qa 2 ?_;exact tRE h a
 refine tJr (λi=>[(6,tb i)]) 1 (λ_=>[]) 0 (.inr ·=f) (λi e=>?_) λp=>?_
 ·subst e;simp only at h;exact oRE h a
 refine Qk <|AC h0 (λs0=>[(17,ti s0)]) 1621115266 (λs0=>[]) 0 62 ?_;intro s0 o v h j q;apply Qa 126;refine Qf λ_ s=>Qo h (λ_ h=>?_) λ_ h=>?_
 ·refine Qu <|s <|Qf λ_ t=>Qk ?_;have⟨_,_,_,_,_,_,h⟩:=bs3 h;apply Qa 4016;apply Qa 8096;apply Qa 7968;apply Qo h<;>intro _ h
  ·apply Qa 2;apply AG;exact Qx p (j _ (sy h)) 2
  refine Qu <|t <|QJ 244 ?_;exact Qx q (sy h) 2701165317
 refine QQ <|Qx n (j _ (sy h)) 0
def MX (a:Lz) (b:Lz):Option Bool:=(Ft a b).bind λc=>some c
instance rX:Spc2 prog 40 MX (λb c=>[tsl rI b,tsl rI c]) tb:=.mk λ{b c r} h=>by
 refine Fe func40 ntmps40 λd M e a=>?_
 apply Qa 12
 have⟨_,_,h⟩:=bs h
 apply Qa 16
 exact tRE h a
def MY (a:(List Lz)) (b:(List Lz)):Option Bool:=(JF a b (λx0 c=>MX x0 c)).bind λd=>some d
instance rY:Spc2 prog 38 MY (λb c=>[tsl (rSl rI) b,tsl (rSl rI) c]) tb:=.mk λ{b c r} h=>by
 refine Fe func38 ntmps38 λd M e a=>?_
 apply Qa 12
 have⟨_,_,h⟩:=bs h
 apply Qa 16
 exact tRE h a
