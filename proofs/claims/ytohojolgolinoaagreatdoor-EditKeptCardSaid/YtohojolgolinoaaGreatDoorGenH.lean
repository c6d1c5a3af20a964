/- The walk. No condition. -/
import Derived.Test.YtohojolgolinoaaGreatDoorGenA
import Derived.Test.YtohojolgolinoaaGreatDoorGenB
import Derived.Test.YtohojolgolinoaaGreatDoorGenC
import Derived.Test.YtohojolgolinoaaGreatDoorGenD
set_option linter.all false
open List Go.Proofs.Tryz Go.IntKind
namespace Go.Proofs.YtohojolgolinoaaGreatDoor
noncomputable section
open Go.Sim
set_option maxRecDepth 100000
set_option maxHeartbeats 4000000
def Mw (d:Qc) (f:Int):Option Int:=(idx d.Xc f).bind λa=>(Qr (λ(s0:Int)=>((if decide (s0<f) then (idx d.Xc s0).bind λi=>if i.Xj==a.Xj then some (.inr (.inr 7)) else some (.inl (i64.wrap (s0+1))) else some (.inr (.inl ()))):Option (Int⊕(Unit⊕Int)))) 0).bind λj=>(match j with | .inl _=>(EZ d a.Xi).bind λe=>(if decide (e<0) then some 12 else (Qr (λ(c:Int×Bool)=>((if decide (c.1<2) then jn (λ(k:Bool)=>some (.inl (i64.wrap (c.1+1),k))) λb=>(idx [a.A,a.B] c.1).bind λl=>if l==([]:Str) then b c.2 else (idx d.Xa e).bind λm=>(idx [a.A,a.B] c.1).bind λn=>(FA m n).bind λg=>if decide (g<0) then some (.inr (.inr 12)) else (idx d.Xa e).bind λo=>(idx o.Xb g).bind λh=>b (c.2||((h.Xi !=2)&&(h.Xi !=4))) else some (.inr (.inl c.2))):Option ((Int×Bool)⊕(Bool⊕Int)))) (0,false)).bind λp=>(match p with | .inl q=>(if q then some 13 else if a.A==a.B then some 1 else some 0) | .inr r=>some r)) | .inr s=>some s)
instance uV:Spc2 prog 152 Mw (λg i=>[Qb.ty g,ti i]) ti:=.mk λ{g i r} h=>by
 refine Fe func152 ntmps152 λL M N b=>?_
 apply Qa 18
 have⟨s,_,j,h0,h⟩:=bs2 h
 refine QU [vb 5 (QV.cs zz3),vb 5 (QV.cs s)] [6,7] 448 λO=>?_
 apply tFz 0
 refine Qf λt u=>?_
 apply Qa 30
 refine tJp (λ_=>[]) 515 (λ_=>[]) 0 t (.inl ·=j) (λP c=>?_) λv=>?_
 ·subst c
  simp only at h
  apply u
  have⟨_,_,h⟩:=bs h
  apply Qa 224
  refine tIfs h 60 (λ_ h=>?_) λ_ h=>?_
  ·apply Qa 2
   exact tRE h b
  apply Qa 1856
  apply Qa 62
  refine Qf λw x=>?_
  apply Qa 126
  have⟨k,y,h⟩:=bs h
  refine tJp (λl=>[(9,tb l)]) 769 (λ_=>[]) 0 w (.inl ·=k) (λl c=>?_) λz=>?_
  ·subst c
   simp only at h
   apply x
   refine tIfs h 10 (λ_ h=>?_) λ_ h=>?_
   ·apply Qa 2
    exact tRE h b
   refine tIfs h 32 (λ_ h=>?_) λ_ h=>?_
   ·apply Qa 2
    exact tRE h b
   apply Qa 2
   exact tRE h b
  refine tJr (λm=>[(4,ti m)]) 1 (λ_=>[]) 0 (.inr ·=k) (λm c=>?_) λA=>?_
  ·subst c
   simp only at h
   exact oRE h b
  apply Qk
  refine AC y (λs0=>[(10,ti s0.1),(9,tb s0.2)]) 266403969 (λs0=>[]) 0 126 ?_
  intro s0 o Q h d B
  refine Qf λ_ C=>?_
  apply Qa 508
  apply Qo h<;>intro _ h
  ·apply Qu
   apply C
   refine Qf λD E=>?_
   have⟨e,a,h⟩:=JL h
   refine tJp (λn=>[(9,tb n)]) 266420355 (λ_=>[]) 0 D (e ·=some o) (λn h=>?_) λp=>?_
   ·rw[a] at h
    clear a
    apply E
    apply QJ 504
    exact Qx B (sy h) 126
   clear a
   apply Qk
   have⟨_,_,h⟩:=bs h
   refine tIfs h 8096 (λ_ h=>?_) λ_ h=>?_
   ·apply QQ
    exact Qx p h 252
   have⟨_,_,_,_,_,_,h⟩:=bs3 h
   apply Qa 518144
   refine tIfs h 1020 (λ_ h=>?_) λ_ h=>?_
   ·apply Qa 2
    apply AG
    exact Qx A (d _ (sy h)) 2
   have⟨_,_,_,_,h⟩:=bs2 h
   apply Qa 1034240
   apply QJ 128000
   exact Qx p h 415018090757
  apply QQ
  exact Qx z (d _ (sy h)) 72
 refine tJr (λq=>[(4,ti q)]) 1 (λ_=>[]) 0 (.inr ·=j) (λq c=>?_) λF=>?_
 ·subst c
  simp only at h
  exact oRE h b
 apply Qk
 refine AC h0 (λf=>[(6,ti f)]) 2081153 (λf=>[]) 0 30 ?_
 intro f o R h d H
 refine Qf λ_ I=>?_
 apply Qa 248
 apply Qo h<;>intro _ h
 ·apply Qu
  apply I
  refine Qf λ_ K=>?_
  apply Qk
  have⟨_,_,h⟩:=bs h
  apply Qa 31232
  apply Qo h<;>intro _ h
  ·apply Qa 2
   apply AG
   exact Qx F (d _ (sy h)) 2
  apply Qu
  apply K
  apply QJ 232
  exact Qx H (sy h) 30
 apply QQ
 exact Qx v (d _ (sy h)) 24
def Kw (b:(List QK)) (a:Lz):Option (Int×Int):=(Qr (λ(s0:Int×Int×Int)=>if decide (s0.1<(b.length:Int)) then ((idx b s0.1).bind λc=>(opt ((c.A !=(a.length:Int))==false) (idx b s0.1) default).bind λi=>(if (c.A !=(a.length:Int))||(decide (i.B>=(a.length:Int))) then some (s0.2.1,s0.2.2) else (idx b s0.1).bind λd=>(idx b s0.1).bind λj=>(if decide (j.B>=0) then (idx b s0.1).bind λk=>(idx a k.B).bind λl=>some (i64.wrap (d.Mul * l)) else some d.Mul).bind λe=>(idx b s0.1).bind λm=>(if m.Xh then some (imax s0.2.2 e,s0.2.1) else some (s0.2.2,imin s0.2.1 e)).bind λf=>some (f.2,f.1))).bind λg=>some (.inl (i64.wrap (s0.1+1),g.1,g.2)) else some (.inr (s0.2.1,s0.2.2))) (0,65536,0)).bind λh=>some (h.2,h.1)
instance fS:Spc2 prog 161 Kw (λd a=>[tsl BL d,tsl rI a]) (λr=>ttup [ti r.1,ti r.2]):=.mk λ{d a r} h=>by
 refine Fe func161 ntmps161 λD M l c=>?_
 apply Qa 24
 apply Qa 56
 apply Qa 30
 apply Qa 62
 refine Qf λm n=>?_
 apply Qa 126
 have⟨p,h0,h⟩:=bs h
 have q:∀b,b=p->To M l 69 [(8,ti b.1),(7,ti b.2)] [] m:=by
  intro b s;subst s;refine n <|Qa 24 ?_;exact tRE h c
 refine Qk <|AC h0 (λs0=>[(9,ti s0.1),(8,ti s0.2.1),(7,ti s0.2.2)]) 34101805185 (λs0=>[]) 0 126 ?_;intro s0 o E h t u;refine Qf λ_ v=>Qa 2032 ?_;apply Qo h<;>intro _ h
 ·refine Qu <|v <|Qf λe w=>?_;have⟨f,x,h⟩:=bs h;refine tJ0 [(8,ti f.1),(7,ti f.2)] 34103902339 [] 0 e ?_ λg=>?_
  ·refine w <|QJ 504 ?_;exact Qx u (sy h) 126
  replace h:=x;apply Qk;have⟨_,_,_,_,h⟩:=bs2 h;refine tIfs h 16580608 (λ_ h=>?_) λ_ h=>?_
  ·apply QQ;cases sj h;exact QN g 252
  have⟨_,_,h⟩:=bs h;apply Qa 16192;refine Qf λy z=>?_;have⟨_,_,h⟩:=bs h;apply Qa 16320;have⟨A,B,h⟩:=bs h;refine tJ0 [(10,ti A)] 2081281 [] 0 y ?_ λi=>?_
  ·apply z;have⟨_,_,h⟩:=bs h;apply Qa 8160;have⟨j,C,h⟩:=bs h;refine tJ0 [(7,ti j.1),(8,ti j.2)] 34105999873 [] 0 e ?_ λk=>?_
   ·cases sj h;exact QN g 415018025733
   replace h:=C;apply Qo h<;>intro _ h
   ·apply QJ 3984;cases sj h;exact QN k 126
   apply QJ 3984;cases sj h;exact QN k 415018025479
  replace h:=B;apply Qo h<;>intro _ h
  ·have⟨_,_,_,_,h⟩:=bs2 h;apply QJ 518144;cases sj h;exact QN i 254
  apply Qu;cases sj h;exact QN i 508
 refine QQ <|Qx q (t _ (sy h)) 24
def Ig (d:(List QK)->(List Bool)->Lz->Lz->Option Lz) (f:(List QK)) (c:(List Bool)) (b:Lz) (a:Lz):Option Lz:=if (a.length:Int)==(b.length:Int) then (rm (([]:Lz).length+a.length)).bind λ_=>some ([]++a) else (Kw f a).bind λe=>if decide (e.1>e.2) then some [] else (idx c (a.length:Int)).bind λh=>if !h then (idx b (a.length:Int)).bind λg=>(rm (([]:Lz).length+a.length)).bind λ_=>(rm (([]++a).length+[imin (imax g e.1) e.2].length)).bind λ_=>(d f c b (([]++a)++[imin (imax g e.1) e.2])).bind λi=>some i else (Qr (λ(s0:Int×Lz)=>if decide (s0.1<=e.2) then (rm (([]:Lz).length+a.length)).bind λ_=>(rm (([]++a).length+[s0.1].length)).bind λ_=>(d f c b (([]++a)++[s0.1])).bind λj=>(Kz b s0.2 j).bind λk=>some (.inl (i64.wrap (s0.1+1),k)) else some (.inr s0.2)) (e.1,[])).bind λl=>some l
def Hf:Nat->(List QK)->(List Bool)->Lz->Lz->Option Lz
 | 0=>λ_ _ _ _=>none
 | n+1=>Ig (Hf n)
def La (a:Int) (b:(List Qi)):Option Int:=(if (decide (a>64))||(decide ((b.length:Int)>256)) then some 4 else (opt ((decide (a<0))==false) (LY b (λx0=>Lb x0 (λx0=>Hl x0 a))) default).bind λt0=>(if (decide (a<0))||t0 then some 1 else some 0))
instance uW:Spc2 prog 117 La (λc d=>[ti c,tsl QE d]) ti:=.mk λ{c d r} h=>by
 refine Fe func117 ntmps117 λe M f b=>?_
 apply Qa 18
 refine tIfs h 896 (λ_ h=>?_) λ_ h=>?_
 ·apply Qa 2
  exact tRE h b
 refine QU [vb 1 [tvs .nilFunc],vb 1 (Eo.cs (λx0=>Hl x0 c))] [2,3] 52 (λg=>?_) (λ_=>by refine' pr 1 ?_;refine' rx (.m [] [0] rfl rfl rfl (Eb (R:=rVal) (a:=.nilFunc) SF zokPf)) 1 ?_;exact rnn)
 apply tFz 0
 apply Qa 52
 have⟨_,_,h⟩:=bs h
 refine tIfs h 128 (λ_ h=>?_) λ_ h=>?_
 ·apply Qa 2
  exact tRE h b
 apply Qa 2
 exact tRE h b
def Mx (e:Int) (b:Qw) (f:Int) (c:(Mp Qg)) (g:Int):Option (Int×Qw):=(Qr (λ(s0:Int×Int×Int×(List Qi)×(List Qg)×Lz)=>(Pc ((AY c s0.1).getD zz6) s0.2.1 (Qw.mk s0.2.2.1 s0.2.2.2.1 s0.2.2.2.2.2 s0.2.2.2.2.1)).bind λa=>if ((AY c s0.1).getD zz6).from'==g then some (.inr (a.1,(a.2).n,(a.2).l,(a.2).arcs,(a.2).flow)) else some (.inl (((AY c s0.1).getD zz6).from',a.1,(a.2).n,(a.2).l,(a.2).arcs,(a.2).flow))) (f,e,b.n,b.l,b.arcs,b.flow)).bind λd=>some (d.1,Qw.mk d.2.1 d.2.2.1 d.2.2.2.2 d.2.2.2.1)
instance fT:SpcS prog 170 (∀{b c a f d g e i r},Mx f d g e i=some r->FnOk prog 170 [CZ 171 [tv b,tptr (rVal.cs c)],tptr (rI.cs g),tptr ((rMp Qv).cs e),tptr (rI.cs i)] [box (rI.cs f) b,bxN d.n d.l a d.arcs c,own rI 3 d.flow a] (λ_=>[box (rI.cs r.1) b,bxN (r.2).n (r.2).l a (r.2).arcs c,own rI 3 (r.2).flow a]) (λ_=>ttup [])):=.mk λ{b c a f d g e i r} h=>by
 refine Fe func170 ntmps170 λu M v l=>?_
 apply Qa 108
 have⟨m,h0,h⟩:=bs h
 refine tJr (λ_=>[]) 3 (λj=>[box (rI.cs j.1) b,bxN j.2.1 j.2.2.1 a j.2.2.2.1 c,own rI 3 j.2.2.2.2 a]) 16513 (·=m) (λj n=>?_) λp=>?_
 ·subst n
  cases sj h
  exact AO undef [0,1,2] l
 apply Qk
 refine AC h0 (λs0=>[(5,ti s0.1)]) 2081153 (λs0=>[box (rI.cs s0.2.1) b,bxN s0.2.2.1 s0.2.2.2.1 a s0.2.2.2.2.1 c,own rI 3 s0.2.2.2.2.2 a]) 16513 30 ?_
 intro s0 o w h q s
 apply Qk
 refine QU [vb 3 (Qv.cs zz6),vb 3 (Qv.cs ((AY e s0.1).getD zz6))] [4,5] 464 (λx=>?_) (λ_=>by refine' pr 2 ?_;refine' rx (.p rfl (UR (x0:=zz6) FO ud3 F7 HC z1 z0)) 2 ?_;exact rnn)
 apply tFz 3
 have⟨k,t,h⟩:=bs h
 refine QU [v0 (box (rI.cs k.1) b),v0 (bxN (k.2).n (k.2).l a (k.2).arcs c),v0 (own rI 3 (k.2).flow a)] [3,3,3] 240 (λy=>?_) (λ_=>by refine' pr 2 ?_;refine' rx (.e [] [0,1,2] [3,4,5] rfl rfl rfl rfl (DK cal (eL.ok t) z1 (.cons (.of z0)<|.nil))) 0 ?_;exact rnn)
 apply Qa 232
 apply Qa 248
 apply Qo h<;>intro _ h
 ·apply AG
  exact Qx p (q _ (sy h)) 8
 apply Qu
 exact Qx s (sy h) 60
def My (b:Qw) (e:Int) (f:Int) (c:(Mp Qg)) (g:Int):Option (Qw×Int):=(Qr (λ(s0:Int×Int×(List Qi)×(List Qg)×Lz×Int)=>(Pd ((AY c s0.1).getD zz6) (Qw.mk s0.2.1 s0.2.2.1 s0.2.2.2.2.1 s0.2.2.2.1) s0.2.2.2.2.2).bind λa=>if ((AY c s0.1).getD zz6).from'==g then some (.inr ((a.1).n,(a.1).l,(a.1).arcs,(a.1).flow,a.2)) else some (.inl (((AY c s0.1).getD zz6).from',(a.1).n,(a.1).l,(a.1).arcs,(a.1).flow,a.2))) (f,b.n,b.l,b.arcs,b.flow,e)).bind λd=>some (Qw.mk d.1 d.2.1 d.2.2.2.1 d.2.2.1,d.2.2.2.2)
instance fU:SpcS prog 170 (∀{b a c d f g e i r},My d f g e i=some r->FnOk prog 170 [CZ 172 [tptr (rVal.cs b),tv c],tptr (rI.cs g),tptr ((rMp Qv).cs e),tptr (rI.cs i)] [bxN d.n d.l a d.arcs b,own rI 3 d.flow a,box (rI.cs f) c] (λ_=>[bxN (r.1).n (r.1).l a (r.1).arcs b,own rI 3 (r.1).flow a,box (rI.cs r.2) c]) (λ_=>ttup [])):=.mk λ{b a c d f g e i r} h=>by
 refine Fe func170 ntmps170 λu M v l=>?_
 apply Qa 108
 have⟨m,h0,h⟩:=bs h
 refine tJr (λ_=>[]) 3 (λj=>[bxN j.1 j.2.1 a j.2.2.1 b,own rI 3 j.2.2.2.1 a,box (rI.cs j.2.2.2.2) c]) 16513 (·=m) (λj n=>?_) λp=>?_
 ·subst n
  cases sj h
  exact AO undef [0,1,2] l
 apply Qk
 refine AC h0 (λs0=>[(5,ti s0.1)]) 2081153 (λs0=>[bxN s0.2.1 s0.2.2.1 a s0.2.2.2.1 b,own rI 3 s0.2.2.2.2.1 a,box (rI.cs s0.2.2.2.2.2) c]) 16513 30 ?_
 intro s0 o w h q s
 apply Qk
 refine QU [vb 3 (Qv.cs zz6),vb 3 (Qv.cs ((AY e s0.1).getD zz6))] [4,5] 464 (λx=>?_) (λ_=>by refine' pr 2 ?_;refine' rx (.p rfl (UR (x0:=zz6) FO ud3 F7 HC z1 z0)) 2 ?_;exact rnn)
 apply tFz 3
 have⟨k,t,h⟩:=bs h
 refine QU [v0 (bxN (k.1).n (k.1).l a (k.1).arcs b),v0 (own rI 3 (k.1).flow a),v0 (box (rI.cs k.2) c)] [3,3,3] 240 (λy=>?_) (λ_=>by refine' pr 2 ?_;refine' rx (.e [] [0,1,2] [3,4,5] rfl rfl rfl rfl (DK cal (eM.ok t) z1 (.cons (.of z0)<|.nil))) 0 ?_;exact rnn)
 apply Qa 232
 apply Qa 248
 apply Qo h<;>intro _ h
 ·apply AG
  exact Qx p (q _ (sy h)) 8
 apply Qu
 exact Qx s (sy h) 60
def JT (g:Qw) (a:(Mp Qg)) (b:Int) (d:Int) (c:Int):Option (Int×Qw):=(Mx c (Qw.mk g.n g.l g.flow g.arcs) d a b).bind λe=>(My (Qw.mk (e.2).n (e.2).l (e.2).flow (e.2).arcs) e.1 d a b).bind λf=>some (f.2,Qw.mk (f.1).n (f.1).l (f.1).flow (f.1).arcs)
instance US:SpcS prog 121 (∀{f a g b d e c r},JT g b d e c=some r->FnOk prog 121 [tv f,tmap Qv b,ti d,ti e,ti c] [bxN g.n g.l a g.arcs f,own rI 3 g.flow a] (λ_=>[bxN (r.2).n (r.2).l a (r.2).arcs f,own rI 3 (r.2).flow a]) (λ_=>ti r.1)):=.mk λ{f a g b d e c r} h=>by
 refine Fe func121 ntmps121 λn M o k=>?_
 refine QU [vb 4 (rI.cs c)] [5] 190 (λl=>?_) (λ_=>by refine' rx (.u [0] rfl rfl (fV z0)) 5 ?_;exact rnn)
 apply Qa 396
 have⟨i,h0,j,m,h⟩:=bs2 h
 refine QU [v0 (box (rI.cs i.1) (l 4)),v0 (bxN (i.2).n (i.2).l a (i.2).arcs f),v0 (own rI 3 (i.2).flow a)] [3,3,3] 240 (λp=>?_) (λ_=>by refine' pr 2 ?_;refine' rx (.e [] [2,0,1] [3,4,5] rfl rfl rfl rfl (DK cal (fT.ok h0) z1 (.cons (.of z0)<|.nil))) 0 ?_;exact rnn)
 refine QU [v0 (bxN (j.1).n (j.1).l a (j.1).arcs f),v0 (own rI 3 (j.1).flow a),v0 (box (rI.cs j.2) (l 4))] [3,3,3] 192 (λq=>?_) (λ_=>by refine' pr 2 ?_;refine' rx (.e [] [1,2,0] [3,4,5] rfl rfl rfl rfl (DK cal (fU.ok m) z1 (.cons (.of z0)<|.nil))) 0 ?_;exact rnn)
 apply Qa 20
 apply tSl [0,1]
 exact Qp h (·▸AO undef [0,1] k)
def Mz (a:Qe):Option Qe:=(if a.Xi==0 then some (Qe.mk a.Xj ([]:Str) ([]:Str) a.Xi a.Lo 0 ([]:(List Str)) ([]:Lz)) else (if a.Xi==1 then some (a.Xi==1) else (if a.Xi==4 then some (a.Xi==4) else some (a.Xi==5)).bind λb=>some b).bind λc=>(if c then some (Qe.mk a.Xj a.Of ([]:Str) a.Xi a.Lo a.Hi ([]:(List Str)) ([]:Lz)) else (if a.Xi==2 then some (Qe.mk a.Xj ([]:Str) ([]:Str) a.Xi a.Lo a.Hi ([]:(List Str)) ([]:Lz)) else (if a.Xi==3 then some (Qe.mk a.Xj ([]:Str) ([]:Str) a.Xi 0 0 a.Words a.Xf) else (if a.Xi==6 then some (Qe.mk a.Xj a.Of ([]:Str) a.Xi 0 0 ([]:(List Str)) ([]:Lz)) else (if a.Xi==7 then some (Qe.mk a.Xj a.Of a.Up a.Xi a.Lo a.Hi ([]:(List Str)) ([]:Lz)) else (if a.Xi==8 then some (Qe.mk a.Xj a.Of a.Up a.Xi 0 0 ([]:(List Str)) ([]:Lz)) else some (Qe.mk a.Xj ([]:Str) ([]:Str) a.Xi 0 0 ([]:(List Str)) ([]:Lz))).bind λd=>some d).bind λe=>some e).bind λf=>some f).bind λg=>some g).bind λh=>some h).bind λi=>some i).bind λj=>some j
instance uX:Spc1 prog 247 Mz (λa=>[Qd.ty a]) Qd.ty:=.mk λ{a r} h=>by
 refine Fe func247 ntmps247 λN M O e=>?_
 refine QU [vb 1 (Qd.cs zz0)] [2] 6 λc=>?_
 refine QU [vb 5 (Qd.cs zz0),vb 5 (Qd.cs (Qe.mk a.Xj ([]:Str) ([]:Str) a.Xi (0:Int) (0:Int) ([]:(List Str)) ([]:Lz)))] [6,7] 448 λb=>?_
 refine Qf λd s=>?_
 apply Qa 60
 apply Qk
 apply Qa 124
 have⟨f,h0,h⟩:=bs h
 refine tJ0 [] 772 [box (Qd.cs zz0) (c 1),box (Qd.cs f) (b 5)] 129 d ?_ λg=>?_
 ·apply s
  refine QU [v0 (box (Qd.cs f) (c 1))] [2] 8 λP=>?_
  apply tSl [1]
  exact tRE h e
 replace h:=h0
 apply Qo h<;>intro _ h
 ·refine AB [v0 (box (Qd.cs (Qe.mk a.Xj ([]:Str) ([]:Str) a.Xi a.Lo (0:Int) ([]:(List Str)) ([]:Lz))) (b 5))] [4] 320 λQ=>?_
  cases sj h
  exact QN g 6
 refine Qf λi t=>?_
 apply Qa 244
 have⟨u,v,h⟩:=bs h
 refine tJ0 [(16,tb u)] 2081153 [box (Qd.cs zz0) (c 1),box (Qd.cs (Qe.mk a.Xj ([]:Str) ([]:Str) a.Xi (0:Int) (0:Int) ([]:(List Str)) ([]:Lz))) (b 5)] 129 i ?_ λj=>?_
 ·apply t
  have⟨w,x,h⟩:=bs h
  refine tJ0 [] 772 [box (Qd.cs zz0) (c 1),box (Qd.cs w) (b 5)] 129 d ?_ λk=>?_
  ·cases sj h
   exact QN g 6
  replace h:=x
  apply Qo h<;>intro _ h
  ·refine AB [v0 (box (Qd.cs (Qe.mk a.Xj a.Of ([]:Str) a.Xi (0:Int) (0:Int) ([]:(List Str)) ([]:Lz))) (b 5)),v0 (box (Qd.cs (Qe.mk a.Xj a.Of ([]:Str) a.Xi a.Lo (0:Int) ([]:(List Str)) ([]:Lz))) (b 5)),v0 (box (Qd.cs (Qe.mk a.Xj a.Of ([]:Str) a.Xi a.Lo a.Hi ([]:(List Str)) ([]:Lz))) (b 5))] [8,10,12] 20480 λR=>?_
   cases sj h
   exact QN k 6
  apply Qa 244
  have⟨y,z,h⟩:=bs h
  refine tJ0 [] 772 [box (Qd.cs zz0) (c 1),box (Qd.cs y) (b 5)] 129 d ?_ λl=>?_
  ·cases sj h
   exact QN k 6
  replace h:=z
  apply Qo h<;>intro _ h
  ·refine AB [v0 (box (Qd.cs (Qe.mk a.Xj ([]:Str) ([]:Str) a.Xi a.Lo (0:Int) ([]:(List Str)) ([]:Lz))) (b 5)),v0 (box (Qd.cs (Qe.mk a.Xj ([]:Str) ([]:Str) a.Xi a.Lo a.Hi ([]:(List Str)) ([]:Lz))) (b 5))] [6,8] 2560 λS=>?_
   cases sj h
   exact QN l 6
  apply Qa 244
  have⟨A,B,h⟩:=bs h
  refine tJ0 [] 772 [box (Qd.cs zz0) (c 1),box (Qd.cs A) (b 5)] 129 d ?_ λm=>?_
  ·cases sj h
   exact QN l 6
  replace h:=B
  apply Qo h<;>intro _ h
  ·refine AB [v0 (box (Qd.cs (Qe.mk a.Xj ([]:Str) ([]:Str) a.Xi (0:Int) (0:Int) a.Words ([]:Lz))) (b 5)),v0 (box (Qd.cs (Qe.mk a.Xj ([]:Str) ([]:Str) a.Xi (0:Int) (0:Int) a.Words a.Xf)) (b 5))] [6,8] 2560 λT=>?_
   cases sj h
   exact QN m 6
  apply Qa 244
  have⟨C,D,h⟩:=bs h
  refine tJ0 [] 772 [box (Qd.cs zz0) (c 1),box (Qd.cs C) (b 5)] 129 d ?_ λn=>?_
  ·cases sj h
   exact QN m 6
  replace h:=D
  apply Qo h<;>intro _ h
  ·refine AB [v0 (box (Qd.cs (Qe.mk a.Xj a.Of ([]:Str) a.Xi (0:Int) (0:Int) ([]:(List Str)) ([]:Lz))) (b 5))] [4] 320 λU=>?_
   cases sj h
   exact QN n 6
  apply Qa 244
  have⟨E,F,h⟩:=bs h
  refine tJ0 [] 772 [box (Qd.cs zz0) (c 1),box (Qd.cs E) (b 5)] 129 d ?_ λo=>?_
  ·cases sj h
   exact QN n 6
  replace h:=F
  apply Qo h<;>intro _ h
  ·refine AB [v0 (box (Qd.cs (Qe.mk a.Xj a.Of ([]:Str) a.Xi (0:Int) (0:Int) ([]:(List Str)) ([]:Lz))) (b 5)),v0 (box (Qd.cs (Qe.mk a.Xj a.Of a.Up a.Xi (0:Int) (0:Int) ([]:(List Str)) ([]:Lz))) (b 5)),v0 (box (Qd.cs (Qe.mk a.Xj a.Of a.Up a.Xi a.Lo (0:Int) ([]:(List Str)) ([]:Lz))) (b 5)),v0 (box (Qd.cs (Qe.mk a.Xj a.Of a.Up a.Xi a.Lo a.Hi ([]:(List Str)) ([]:Lz))) (b 5))] [10,12,14,16] 163840 λV=>?_
   cases sj h
   exact QN o 6
  apply Qa 228
  have⟨H,I,h⟩:=bs h
  refine tJ0 [] 643 [box (Qd.cs zz0) (c 1),box (Qd.cs H) (b 5)] 129 d ?_ λp=>?_
  ·cases sj h
   exact QN o 6
  replace h:=I
  apply Qo h<;>intro _ h
  ·refine AB [v0 (box (Qd.cs (Qe.mk a.Xj a.Of ([]:Str) a.Xi (0:Int) (0:Int) ([]:(List Str)) ([]:Lz))) (b 5)),v0 (box (Qd.cs (Qe.mk a.Xj a.Of a.Up a.Xi (0:Int) (0:Int) ([]:(List Str)) ([]:Lz))) (b 5))] [6,8] 1280 λW=>?_
   cases sj h
   exact QN p 6
  apply Qu
  cases sj h
  exact QN p 20
 replace h:=v
 apply Qo h<;>intro _ h
 ·apply Qu
  cases sj h
  exact QN j 62
 apply Qa 124
 have⟨K,L,h⟩:=bs h
 refine tJ0 [(16,tb K)] 2081153 [box (Qd.cs zz0) (c 1),box (Qd.cs (Qe.mk a.Xj ([]:Str) ([]:Str) a.Xi (0:Int) (0:Int) ([]:(List Str)) ([]:Lz))) (b 5)] 129 i ?_ λq=>?_
 ·cases sj h
  exact QN j 62
 replace h:=L
 apply Qo h<;>intro _ h
 ·apply Qu
  cases sj h
  exact QN q 62
 apply QJ 124
 cases sj h
 exact QN q 62
def Mq (b:QA) (c:Lz) (a:QL):Option Bool:=(I9 a.A c b).bind λd=>(I9 a.B c b).bind λe=>some (decide (d<=(i64.wrap (e+a.N))))
instance uY:Spc3 prog 36 Mq (λc d a=>[Qq.ty c,tsl rI d,QV.ty a]) tb:=.mk λ{c d a r} h=>by
 refine Fe func36 ntmps36 λf M g b=>?_
 apply Qa 14
 apply Qa 36
 have⟨_,h0,_,e,h⟩:=bs2 h
 refine Qa 8192 ?_ (λ_=>by refine' pr 3 ?_;refine' rx (.p rfl (DK cal (Tv.ok h0) z2 (.cons (.of z0)<|.nil))) 3 ?_;refine' rx (.p rfl (DK cal (Tv.ok e) z2 (.cons (.of z0)<|.nil))) 5 ?_;exact rnn)
 exact tRE h b
def KI (b:Int) (c:(List QH)):Option ((List BM)×Int):=(if (decide (b>10))||(decide ((c.length:Int)>64)) then some ([],4) else if decide (b<0) then some ([],1) else (mk (c.length:Int) (BM.mk 0 0 0)).bind λe=>(Qr (λ(s0:Int×List BM)=>((if decide (s0.1<(c.length:Int)) then (idx c s0.1).bind λa=>(if ((((decide ((imin a.A a.B)<(-1)))||(decide ((imax a.A a.B)>=b)))||(a.A==a.B))||(decide (a.N<(-2097152))))||(decide (a.N>2097152)) then some (.inr (.inr (1,[]))) else (nz (i64.wrap (b+1))).bind λ_=>(nz (i64.wrap (b+1))).bind λ_=>(setAt s0.2 s0.1 (BM.mk (Int.tmod (i64.wrap ((i64.wrap (a.A+b))+1)) (i64.wrap (b+1))) (Int.tmod (i64.wrap ((i64.wrap (a.B+b))+1)) (i64.wrap (b+1))) a.N)).bind λf=>some (.inl (i64.wrap (s0.1+1),f))) else some (.inr (.inl s0.2))):Option ((Int×List BM)⊕((List BM)⊕(Int×List BM))))) (0,e)).bind λg=>(match g with | .inl h=>(some (h,0)) | .inr d=>some (d.2,d.1)))
instance fW:SpcS prog 125 (∀{e f r},KI e f=some r->FnOk prog 125 [ti e,tsl B7 f] [] (λv=>[own Bm 270 r.1 v]) (λv=>ttup [tv v,ti r.2])):=.mk λ{e f r} h=>by
 refine Fe func125 ntmps125 λm M g a=>?_
 apply Qa 24
 refine tIfs h 896 (λ_ h=>?_) λ_ h=>?_
 ·apply Qa 6
  apply tNl Bm 270
  exact Qp h (·▸AO (.slice none 0 0) [0] a)
 refine tIfs h 52 (λ_ h=>?_) λ_ h=>?_
 ·apply Qa 6
  apply tNl Bm 270
  exact Qp h (·▸AO (.slice none 0 0) [0] a)
 have⟨n,_,k,h0,h⟩:=bs2 h
 refine QU [vo 2 Bm 270 n] [3] 216 λb=>?_
 refine Qf λp q=>?_
 apply Qa 126
 have s:∀i,(.inl i)=k->To M g 84 [(6,tv (b 2))] [own Bm 270 i (b 2)] p:=by
  intro i j;subst j;simp only at h;refine q <|Qa 30 ?_;exact Qp h (·▸AO (b 2) [0] a)
 have t:∀c d,(.inr c)=k->To M g 84 [(4,tv d),(5,ti c.1)] [own Bm 270 c.2 d] (Ret prog f125 m [] g (λv=>[own Bm 270 r.1 v]) (λv=>ttup [tv v,ti r.2]) .ret):=by
  intro c d j;subst j;simp only at h;cases sj h;exact AO d [0] a
 refine Qk <|AC h0 (λs0=>[(23,ti s0.1)]) 1891647874 (λs0=>[own Bm 270 s0.2 (b 2)]) 1 110 ?_;intro s0 o A h l u;apply Qa 126;refine Qf λ_ w=>Qo h (λ_ h=>?_) λ_ h=>?_
 ·refine Qu <|w <|Qf λ_ x=>Qk ?_;have⟨y,_,h⟩:=bs h;refine QU [vb 3 (B7.cs (QH.mk (0:Int) (0:Int) (0:Int))),vb 3 (B7.cs y)] [4,6] 4016 λB=>?_;apply tFz 1;refine tIfs h 1095216660480 (λ_ h=>?_) λ_ h=>?_
  ·apply Qa 518;apply tNl Bm 270;apply AG;refine AA (λ_ _ H=>(H.pick [0,1]).Xk [0] rfl) ?_;exact Q7 t (.slice none 0 0) (l _ (sy h)) 6
  have⟨_,_,_,_,z,_,h⟩:=bs3 h;refine AB [v0 (own Bm 270 z (b 2))] [23] 2080374786 λC=>?_;refine x <|QJ 252 ?_;exact Qx u (sy h) 3242230791
 refine QQ <|Qx s (l _ (sy h)) 32
