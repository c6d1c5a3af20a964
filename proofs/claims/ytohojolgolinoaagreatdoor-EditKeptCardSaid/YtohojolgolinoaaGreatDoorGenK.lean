/- The walk. No condition. -/
import Derived.Test.YtohojolgolinoaaGreatDoorGenE
import Derived.Test.YtohojolgolinoaaGreatDoorGenF
import Derived.Test.YtohojolgolinoaaGreatDoorGenH
set_option linter.all false
open List Go.Proofs.Tryz Go.IntKind
namespace Go.Proofs.YtohojolgolinoaaGreatDoor
noncomputable section
open Go.Sim
set_option maxRecDepth 100000
set_option maxHeartbeats 4000000
def LF (g:Qc) (a:Lz) (f:Lz):Option (List (List Lz)):=(mk (a.length:Int) ([]:(List Lz))).bind λm=>(Qr (λ(s0:Int×Int×List (List Lz))=>if decide (s0.1<(a.length:Int)) then (Qr (λ(d:Int×Int×List (List Lz))=>(idx a s0.1).bind λn=>if decide (d.1<n) then (Qr (λ(b:Int×Int×Lz)=>(idx g.Xa s0.1).bind λo=>if decide (b.1<(o.Xb.length:Int)) then (idx g.Xa s0.1).bind λp=>(idx p.Xb b.1).bind λc=>(EM f b.2.1 (i64.wrap ((imin (i64.wrap (c.Hi - c.Lo)) 1000)+6))).bind λq=>(if c.Xi==0 then (idx a s0.1).bind λr=>(EM f b.2.1 (i64.wrap (r+3))).bind λs=>some (i64.wrap ((i64.wrap (c.Lo - 1))+s)) else (if c.Xi==1 then (Fu g s0.1 b.1).bind λt=>(idx d.2.2 t).bind λu=>(EM f b.2.1 (imax 1 (u.length:Int))).bind λv=>some v else (if c.Xi==3 then some (c.Xi==3) else some (c.Xi==5)).bind λw=>(if w then (EM f b.2.1 6).bind λh=>some h else some (i64.wrap ((i64.wrap (c.Lo - 2))+q))).bind λx=>some x).bind λy=>some y).bind λi=>(rm (b.2.2.length+[i].length)).bind λ_=>some (.inl (i64.wrap (b.1+1),i64.wrap (b.2.1+1),b.2.2++[i])) else some (.inr (b.2.1,b.2.2))) (0,d.2.1,[])).bind λj=>(idx d.2.2 s0.1).bind λk=>(rm (k.length+1)).bind λ_=>(setAt d.2.2 s0.1 (k++[j.2])).bind λe=>some (.inl (i64.wrap (d.1+1),j.1,e)) else some (.inr (d.2.1,d.2.2))) (0,s0.2.1,s0.2.2)).bind λl=>some (.inl (i64.wrap (s0.1+1),l.1,l.2)) else some (.inr s0.2.2)) (0,0,m)).bind λz=>some z
instance gB:SpcS prog 20 (∀{s a t r},LF s a t=some r->FnOk prog 20 [Qb.ty s,tsl rI a,tsl rI t] [] (λv=>[deep (dRow (dOwn rI 3) 22) 51 r v]) (λv=>tv (dh v))):=.mk λ{s a t r} h=>by
 refine Fe func20 ntmps20 λM0 M C E=>?_
 apply Qa 50
 have⟨X,h0,Y,Z,h⟩:=bs2 h
 refine QU [vo 2 rVal 51 (replicate ((a.length:Int)).toNat nilV)] [3] 240 (λQ=>?_) (λ_=>by refine' pr 2 ?_;refine' rx (.m [] [0] rfl rfl rfl (M6 (α:=Lz) ud29 Bb (leb rfl) z0 z0 h0)) 0 ?_;refine' rx (.ud (f:=λv=>tv (dh (dmk v []))) 2 rfl [] rfl rfl (Ql z0)) 0 ?_;exact rnn)
 refine Q1 (As'':=[deep (dRow (dOwn rI 3) 22) 51 X (dmk (Q 2) [])]) (λ_ _ H=>H.makeD UT rfl rfl h0) ?_
 apply Qa 62
 refine Qf λK0 k0=>?_
 apply Qa 126
 have J0:∀F z,F=Y->To M C 119 [(7,tv (dh z))] [deep (dRow (dOwn rI 3) 22) 51 F z] K0:=by
  intro F z u;subst u;refine k0 <|Qa 14 ?_;exact Qp h (·▸AO z [0] E)
 refine Qk <|AT Z (λs0 n=>[(9,ti s0.1),(8,ti s0.2.1),(7,tv (dh n))]) 34101805185 (λs0 n=>[deep (dRow (dOwn rI 3) 22) 51 s0.2.2 n]) 1 (dmk (Q 2) []) 126 ?_;intro s0 n o K1 h w k1;refine Qf λ_ k2=>Qa 2032 ?_;apply Qo h<;>intro _ h
 ·refine Qu <|k2 <|Qf λK2 k3=>Qk <|Qa 506 ?_;have⟨e4,h2,h⟩:=bs h;refine tJq (λA x=>[(8,ti A.1),(7,tv (dh x))]) 34103902339 (λA x=>[deep (dRow (dOwn rI 3) 22) 51 A.2 x]) 1 K2 (·=e4) (λA x u=>?_) λJ1=>?_
  ·subst u;refine k3 <|QJ 504 ?_;exact Q7 k1 x (sy h) 126
  refine Qk <|AT h2 (λc b=>[(10,ti c.1),(8,ti c.2.1),(7,tv (dh b))]) 4365299499393 (λc b=>[deep (dRow (dOwn rI 3) 22) 51 c.2.2 b]) 1 n 254 ?_;intro c b o K3 h w k4;refine Qf λ_ k5=>?_;have⟨_,_,h⟩:=bs h;apply Qa 16320;apply Qo h<;>intro _ h
  ·refine Qu <|k5 <|Qf λ_ k6=>Qk <|Qa 1018 ?_;apply tNl rI 3;refine Qf λK4 k7=>Qa 1022 ?_;have⟨e5,h3,h⟩:=bs h;refine tJq (λj d=>[(11,tv d),(8,ti j.1)]) 4365568000513 (λj d=>[own rI 3 j.2 d]) 385 K4 (·=e5) (λj d u=>?_) λJ2=>?_
   ·subst u;apply k7;have⟨i,p,h⟩:=bs h;refine Q1 (As'':=[deep (dOwn rI 3) 22 i (ds b (s0.1).toNat),Ad (dRow (dOwn rI 3) 22) 51 c.2.2 b (some (s0.1).toNat),own rI 3 j.2 d]) (λ_ _ H=>(H.Xk [1,0] rfl).openD p) ?_;have⟨_,h5,m,k,h⟩:=bs2 h;refine AB [v1 8 (λv0=>deep (dOwn rI 3) 22 (i++[j.2]) (BW i.length (ds b (s0.1).toNat) v0 (dmk d []))),v1 8 (λv0=>Ad (dRow (dOwn rI 3) 22) 51 c.2.2 (dset (c.2.2).length b (s0.1).toNat (BW i.length (ds b (s0.1).toNat) v0 (dmk d []))) (some (s0.1).toNat))] [9,11] 520202 (λq=>?_) (λq=>by refine' pr 4 ?_;refine' rx (.u [1] rfl rfl (Ay ud29 BZ z1 z0 p)) 0 ?_;refine' rx (.u [1] rfl rfl (A9 Bb z0 p)) 1 ?_;refine' rx (.u [2] rfl rfl (UU (R:=rI) (e:=3) (xs:=j.2) ud51 Ak z0)) 0 ?_;refine' rx (.e [] [0,2] [3] rfl rfl rfl rfl (UV (D:=(dOwn rI 3)) (y:=j.2) (gy:=(dmk d [])) ud51 B6 (leb rfl) z2 (.hdrD rfl rfl z0) h5)) 0 ?_;refine' rx (.u [1] rfl rfl (Ay ud29 BZ z8 z7 p)) 0 ?_;refine' rx (.e [3] [1] [4] rfl rfl rfl rfl (Ps (B:=deep (dOwn rI 3) 22 (i++[j.2]) (BW i.length (ds b (s0.1).toNat) (q 8) (dmk d []))) (g2:=(BW i.length (ds b (s0.1).toNat) (q 8) (dmk d []))) (λ_ _ h=>UW h) Bb z0 z1 p (leb rfl) rfl)) 0 ?_;exact rnn);refine AA (As'':=[deep (dRow (dOwn rI 3) 22) 51 m (dset (c.2.2).length b (s0.1).toNat (BW i.length (ds b (s0.1).toNat) (q 8) (dmk d [])))]) (λ_ _ H=>H.shutN (D:=(dRow (dOwn rI 3) 22)) (y:=(i++[j.2])) (g2:=(BW i.length (ds b (s0.1).toNat) (q 8) (dmk d []))) p k) ?_;refine k6 <|QJ 4088 ?_;exact Q7 k4 (dset (c.2.2).length b (s0.1).toNat (BW i.length (ds b (s0.1).toNat) (q 8) (dmk d []))) (sy h) 1010
   refine Qk <|AT h3 (λg l=>[(12,ti g.1),(11,tv l),(8,ti g.2.1)]) 558792704065665 (λg l=>[own rI 3 g.2.2 l]) 385 (.slice none 0 0) 1022 ?_;intro g l o K5 h w k8;refine Qf λ_ k9=>?_;have⟨_,_,h⟩:=bs h;apply Qa 523776;apply Qo h<;>intro _ h
   ·refine Qu <|k9 <|Qf λ_ I=>Qk ?_;have⟨_,_,t1,_,_,_,S,h6,h⟩:=bs4 h;refine QU [vb 9 (Qd.cs zz0),vb 9 (Qd.cs t1)] [10,11] 2094080 λm2=>?_;apply tFz 2;apply Qa 67076096;refine Qf λK L=>Qa 16380 ?_;refine Qk <|Qa 32764 ?_;refine tJ0 [(14,ti S)] 2081537 [] 127 K ?_ λT=>?_
    ·apply L;have⟨_,_,h⟩:=bs h;refine QU [vo 3 rI 3 (g.2.2++[S])] [4] 32688 λm3=>?_;apply QJ 8184;refine I <|QJ 8184 ?_;refine AA (λ_ _ H=>(H.pick [0,3,4,5,1,6,7,8,9]).Xk [1,0] rfl) ?_;exact Q7 k8 (m3 3) (sy h) 1022
    replace h:=h6;apply Qo h<;>intro _ h
    ·have⟨_,_,_,_,h⟩:=bs2 h;apply QJ 66985984;cases sj h;exact QN T 2046
    apply Qa 65460;have⟨p4,h7,h⟩:=bs h;have U:To M C 119 [(14,ti p4),(12,ti g.1),(11,tv l),(10,ti c.1),(9,ti s0.1),(8,ti g.2.1),(7,tv (dh b)),(3,tptr (Qb.cs s)),(1,tsl rI a),(2,tsl rI t)] [own rI 3 g.2.2 l,deep (dRow (dOwn rI 3) 22) 51 c.2.2 b] K:=by
     cases sj h;exact QN T 2046
    replace h:=h7;apply Qo h<;>intro _ h
    ·have⟨_,_,r3,N,_,_,h⟩:=bs3 h;refine QJ 33497096 ?_ (λ_=>by refine' pr 7 ?_;refine' rx (.u [1] rfl rfl (Ay ud29 BZ z4 z0 N)) 0 ?_;refine' rx (.u [1] rfl rfl (A9 Bb z0 N)) 0 ?_;refine' rx (.u [1] rfl rfl (.part (Q9 N .refl) (Ee ud51 z0))) 3 ?_;exact rnn);cases sj h;exact QN U 4092
    refine Qf λK7 O=>Qa 32756 ?_;have⟨p5,h9,h⟩:=bs h;refine tJ0 [(96,tb p5)] 2081281 [] 127 K7 ?_ λV=>?_
    ·apply O;have⟨p6,P,h⟩:=bs h;have W:To M C 119 [(14,ti p6),(12,ti g.1),(11,tv l),(10,ti c.1),(9,ti s0.1),(8,ti g.2.1),(7,tv (dh b)),(3,tptr (Qb.cs s)),(1,tsl rI a),(2,tsl rI t)] [own rI 3 g.2.2 l,deep (dRow (dOwn rI 3) 22) 51 c.2.2 b] K:=by
      cases sj h;exact QN U 2046
     replace h:=P;apply Qo h<;>intro _ h
     ·have⟨_,_,h⟩:=bs h;apply QJ 32720;cases sj h;exact QN W 2046
     apply Qu;cases sj h;exact QN W 4092
    replace h:=h9;apply Qo h<;>intro _ h
    ·apply Qu;cases sj h;exact QN V 8186
    apply QJ 16372;cases sj h;exact QN V 4094
   refine QQ <|Q7 J2 l (w _ (sy h)) 2040
  refine QQ <|Q7 J1 b (w _ (sy h)) 504
 refine QQ <|Q7 J0 n (w _ (sy h)) 16
def LX (e:Qw):Option (Lz×Qw):=(Qr (λ(s0:Int×(List Qi)×(List Qg)×Lz)=>(LL (Qw.mk s0.1 s0.2.1 s0.2.2.2 s0.2.2.1)).bind λf=>(Qr (λ(b:Int)=>((if decide (b<(f.length:Int)) then jn (λ(_:Unit)=>some (.inl (i64.wrap (b+1)))) λc=>(idx f b).bind λk=>if decide (k<=0) then c () else (LV (Qw.mk s0.1 s0.2.1 s0.2.2.2 s0.2.2.1) b).bind λj=>(Qr (λ(a:Int)=>((if decide (a<s0.1) then (opt ((AY j a).isSome==true) (idx f a) default).bind λl=>if (AY j a).isSome&&(decide (l<0)) then (idx f a).bind λm=>(JT (Qw.mk s0.1 s0.2.1 s0.2.2.2 s0.2.2.1) j b a (imin k (i64.wrap (0 - m)))).bind λg=>some (.inr (.inr ((g.2).n,(g.2).l,(g.2).arcs,(g.2).flow))) else some (.inl (i64.wrap (a+1))) else some (.inr (.inl ()))):Option (Int⊕(Unit⊕(Int×(List Qi)×(List Qg)×Lz))))) 0).bind λn=>(match n with | .inl _=>none | .inr h=>some (.inr (.inr (h.1,h.2.1,h.2.2.1,h.2.2.2)))) else some (.inr (.inl ()))):Option (Int⊕(Unit⊕(Int×(List Qi)×(List Qg)×Lz))))) 0).bind λo=>(match o with | .inl _=>(some (.inr ([],s0.1,s0.2.1,s0.2.2.1,s0.2.2.2))) | .inr i=>some (.inl (i.1,i.2.1,i.2.2.1,i.2.2.2)))) (e.n,e.l,e.arcs,e.flow)).bind λd=>some (d.1,Qw.mk d.2.1 d.2.2.1 d.2.2.2.2 d.2.2.2.1)
instance gC:SpcS prog 119 (∀{c a g r},LX g=some r->FnOk prog 119 [tv c] [bxN g.n g.l a g.arcs c,own rI 3 g.flow a] (λ_=>[bxN (r.2).n (r.2).l a (r.2).arcs c,own rI 3 (r.2).flow a]) (λ_=>tsn rI r.1)):=.mk λ{c a g r} h=>by
 refine Fe func119 ntmps119 λM0 M q n=>?_
 refine Qa 4 ?_ (λ_=>by refine' rx (.p rfl (Ql (.nilsn (R:=rI)))) 0 ?_;exact rnn)
 apply tScope
 refine Qf λ_ y=>?_
 apply tLabel
 apply y
 have⟨z,h0,h⟩:=bs h
 refine tJr (λe=>[(2,tsn rI e.1)]) 257 (λe=>[bxN e.2.1 e.2.2.1 a e.2.2.2.1 c,own rI 3 e.2.2.2.2 a]) 129 (·=z) (λe d=>?_) λA=>?_
 ·subst d
  cases sj h
  exact AO undef [0,1] n
 apply Qk
 refine AC h0 (λs0=>[]) 2 (λs0=>[bxN s0.1 s0.2.1 a s0.2.2.1 c,own rI 3 s0.2.2.2 a]) 129 2 ?_
 intro s0 o s h f B
 apply Qk
 have⟨t,C,u,D,h⟩:=bs2 h
 refine QU [vo 1 rI 3 t] [2] 28 (λE=>?_) (λ_=>by refine' pr 1 ?_;refine' rx (.m [0,1] [2] rfl rfl rfl (CY [bxN s0.1 s0.2.1 a s0.2.2.1 c,own rI 3 s0.2.2.2 a] cal (eD.ok C) (.cons (.boxP 2 z0 (.head _) (.tail _ (.head _)) rfl)<|.nil) (λ_=>Ah) (λ_=>Hq (JV (by intro x T h;simp at h;(first | (subst h;exact Ah) | (rcases h with h | h | h<;>subst h<;>exact Ah))))))) 1 ?_;exact rnn)
 refine Qf λF I=>?_
 apply Qa 126
 refine tJp (λ_=>[]) 7 (λ_=>[]) 386 F (.inl ·=u) (λp1 d=>?_) λK=>?_
 ·subst d
  simp only at h
  apply I
  refine Qa 6 ?_ (λ_=>by refine' rx (.p rfl (Ql (.nilsn (R:=rI)))) 0 ?_;exact rnn)
  apply AG
  exact Qx A (f _ (sy h)) 6
 have L:∀i,(.inr i)=u->To M q 76 [(0,tv c)] [bxN i.1 i.2.1 a i.2.2.1 c,own rI 3 i.2.2.2 a] s:=by
  intro i d;subst d;simp only at h;exact Qx B (sy h) 2
 refine Qk <|AC D (λp=>[(16,ti p)]) 1891647874 (λp=>[]) 127 110 ?_;intro p o K2 h f N;apply Qa 126;refine Qf λ_ O=>Qo h (λ_ h=>?_) λ_ h=>?_
 ·refine Qu <|O <|Qf λP Q=>?_;have⟨k,b,h⟩:=JL h;refine tJp (λ_=>[]) 16259 (λ_=>[]) 127 P (k ·=some o) (λp3 h=>?_) λS=>?_
  ·rw[b] at h;clear b;refine Q <|QJ 124 ?_;exact Qx N (sy h) 2701165317
  clear b;apply Qk;have⟨_,_,h⟩:=bs h;apply Qa 4016;refine tIfs h 1020 (λ_ h=>?_) λ_ h=>?_
  ·refine QQ <|Qx S h 496
  have⟨v,U,w,V,h⟩:=bs2 h;refine QU [v1 2 (λv0=>omap Qv v v0)] [3] 8152 (λm1=>?_) (λ_=>by refine' pr 2 ?_;refine' rx (.m [0,1] [3] rfl rfl rfl (CY [bxN s0.1 s0.2.1 a s0.2.2.1 c,own rI 3 s0.2.2.2 a] cal (fB.ok U) (.cons (.boxP 2 z1 (.head _) (.tail _ (.head _)) rfl)<|.cons (.of z0)<|.nil) (λ_=>Ah) (λ_=>Hq (Pt SD)))) 1 ?_;exact rnn);refine Qf λW X=>Qa 32752 ?_;refine tJp (λ_=>[]) 266470149 (λ_=>[]) 127 W (.inl ·=w) (λp4 d=>?_) λY=>?_
  ·subst d;simp only at h;refine X <|Qa 2000 ?_;refine Qf λ_ _=>Qf λ_ _=>?_;cases h
  have Z:∀j,(.inr j)=w->To M q 76 [(0,tv c)] [bxN j.1 j.2.1 a j.2.2.1 c,own rI 3 j.2.2.2 a] s:=by
   intro j d;subst d;simp only at h;exact Qx L (f _ (sy h)) 2
  refine Qk <|AC V (λl=>[(30,ti l)]) 266420354 (λl=>[]) 127 4086 ?_;intro l o K5 h f k7;apply Qa 4094;refine Qf λ_ k8=>Qo h (λ_ h=>?_) λ_ h=>?_
  ·refine Qu <|k8 <|Qf λ_ k9=>Qk <|Qa 16372 ?_;refine QU [vb 6 (Qv.cs zz6),vb 6 (Qv.cs ((AY v l).getD zz6))] [7,8] 1048322 (λm2=>?_) (λ_=>by refine' pr 2 ?_;refine' rx (.u [3] rfl rfl (UI (x0:=zz6) FO ud3 F7 HC z1 z0)) 6 ?_;exact rnn);apply tSl [0,1,2,3];have⟨_,_,h⟩:=bs h;apply Qa 4193024;apply Qo h<;>intro _ h
   ·refine Q1 (As'':=[bxN s0.1 s0.2.1 a s0.2.2.1 c,own rI 3 s0.2.2.2 a,own rI 3 t (E 1)]) (λ_ _ H=>((H.Xk [3,0,1,2] rfl).shareM 5 rfl).pick [0,1,3,4,5,7,8,9,10,11,12,13]) ?_;have⟨_,_,m,h5,h⟩:=bs2 h;refine QU [v0 (bxN (m.2).n (m.2).l a (m.2).arcs c),v0 (own rI 3 (m.2).flow a)] [12,12] 26214464 (λm3=>?_) (λ_=>by refine' pr 11 ?_;refine' rx (.e [] [0,1] [3,4] rfl rfl rfl rfl (QO cal (US.ok h5) (.cons (.of z10)<|.cons (.of z9)<|.cons (.of z8)<|.cons (.of z7)<|.cons (.of z0)<|.nil))) 0 ?_;exact rnn);refine QQ <|AA (λ_ _ H=>(H.pick [3]).Xk [1,2] rfl) ?_;exact Qx Z (f _ (sy h)) 2
   refine Qu <|k9 <|QJ 32724 ?_;exact Qx k7 (sy h) 204365540643748053255
  refine QQ <|Qx Y (f _ (sy h)) 4016
 refine QQ <|AA (λ_ _ H=>(H.pick [5]).Xk [0,1] rfl) ?_;exact Qx K (f _ (sy h)) 2
def M7 (a:Qe):Option Bool:=(By a.Xj).bind λf=>(opt ((!f)==false) (Mz a) default).bind λm=>(opt ((!f)==false) (MR a m) default).bind λn=>(if (!f)||(!n) then some false else if a.Xi==0 then (Dq a.Lo (-1048576) 1048576).bind λo=>some o else if a.Xi==1 then (By a.Of).bind λk=>(opt (k==true) (Gc a.Lo a.Hi 0 65536) default).bind λp=>some (k&&p) else if a.Xi==2 then (Gc a.Lo a.Hi (-1048576) 1048576).bind λq=>some q else if a.Xi==3 then (Hs a.Words a.Xf).bind λr=>some r else if a.Xi==4 then (opt ((a.Of==([]:Str))==false) (By a.Of) default).bind λl=>(opt (((a.Of==([]:Str))||l)==true) (Gc a.Lo a.Hi (-1048576) 1048576) default).bind λs=>some (((a.Of==([]:Str))||l)&&s) else if a.Xi==5 then (By a.Of).bind λc=>(opt (c==true) (Gc a.Lo a.Hi 0 32) default).bind λg=>some (c&&g) else if a.Xi==6 then (By a.Of).bind λh=>some h else if a.Xi==7 then (By a.Of).bind λb=>(opt (b==true) (By a.Up) default).bind λd=>(opt ((b&&d)==true) (Gc a.Lo a.Hi 0 1048576) default).bind λi=>some ((b&&d)&&i) else if a.Xi==8 then (By a.Of).bind λe=>(opt (e==true) (By a.Up) default).bind λj=>some (e&&j) else some false)
instance vG:Spc1 prog 209 M7 (λb=>[Qd.ty b]) tb:=.mk λ{b r} h=>by
 refine Fe func209 ntmps209 λd M e a=>?_
 apply Qa 2
 have⟨_,_,_,_,_,_,h⟩:=bs3 h
 refine tIfs h 6144 (λ_ h=>?_) λ_ h=>?_
 ·apply Qa 2
  exact tRE h a
 refine Qf λ_ c=>?_
 apply Qa 20
 apply Qk
 apply Qa 28
 apply Qo h<;>intro _ h
 ·have⟨_,_,h⟩:=bs h
  apply Qa 16
  exact tRE h a
 apply Qa 52
 apply Qo h<;>intro _ h
 ·have⟨_,_,_,_,h⟩:=bs2 h
  apply Qa 2048
  exact tRE h a
 apply Qa 52
 apply Qo h<;>intro _ h
 ·have⟨_,_,h⟩:=bs h
  apply Qa 64
  exact tRE h a
 apply Qa 52
 apply Qo h<;>intro _ h
 ·have⟨_,_,h⟩:=bs h
  apply Qa 64
  exact tRE h a
 apply Qa 52
 apply Qo h<;>intro _ h
 ·have⟨_,_,_,_,h⟩:=bs2 h
  apply Qa 65536
  exact tRE h a
 apply Qa 52
 apply Qo h<;>intro _ h
 ·have⟨_,_,_,_,h⟩:=bs2 h
  apply Qa 2048
  exact tRE h a
 apply Qa 52
 apply Qo h<;>intro _ h
 ·have⟨_,_,h⟩:=bs h
  apply Qa 16
  exact tRE h a
 apply Qa 52
 apply Qo h<;>intro _ h
 ·have⟨_,_,_,_,_,_,h⟩:=bs3 h
  apply Qa 65536
  exact tRE h a
 apply Qa 36
 apply Qo h<;>intro _ h
 ·have⟨_,_,_,_,h⟩:=bs2 h
  apply Qa 512
  exact tRE h a
 apply Qu
 apply c
 apply Qa 2
 exact tRE h a
def M8 (a:QA):Option Bool:=(By a.Xj).bind λb=>(opt (b==true) (Gc a.Lo a.Hi 0 65536) default).bind λc=>(opt (((b&&c)&&(decide ((a.Xb.length:Int)<=10)))==true) (MK a.Xb (λx0=>M7 x0)) default).bind λd=>some (((b&&c)&&(decide ((a.Xb.length:Int)<=10)))&&d)
instance vH:Spc1 prog 179 M8 (λb=>[Qq.ty b]) tb:=.mk λ{b r} h=>by
 refine Fe func179 ntmps179 λc M d a=>?_
 apply Qa 2
 have⟨_,_,_,_,_,_,h⟩:=bs3 h
 apply Qa 4194304
 exact tRE h a
def Ln (b:Qc):Option Str:=(CR ([115,99,104,101,109,97]:Str) [AnyV.int b.Version]).bind λu=>(DW ([]:Str) u).bind λv=>(Qr (λ(s0:Int×Str)=>if decide (s0.1<(b.Xa.length:Int)) then (idx b.Xa s0.1).bind λe=>(CR ([107,105,110,100]:Str) [AnyV.str e.Xj,AnyV.int e.Lo,AnyV.int e.Hi]).bind λw=>(DW s0.2 w).bind λx=>(Qr (λ(f:Int×Str)=>if decide (f.1<(e.Xb.length:Int)) then (idx e.Xb f.1).bind λy=>(Lj y).bind λz=>(DW f.2 z).bind λA=>some (.inl (i64.wrap (f.1+1),A)) else some (.inr f.2)) (0,x)).bind λB=>some (.inl (i64.wrap (s0.1+1),B)) else some (.inr s0.2)) (0,v)).bind λC=>(Qr (λ(g:Int×Str)=>if decide (g.1<(b.Xd.length:Int)) then (idx b.Xd g.1).bind λc=>(Qr (λ(d:Int×List AnyV)=>if decide (d.1<(c.Xe.length:Int)) then (idx c.Xe d.1).bind λt=>(rm (d.2.length+[AnyV.str t].length)).bind λ_=>some (.inl (i64.wrap (d.1+1),d.2++[AnyV.str t])) else some (.inr d.2)) (0,[AnyV.str c.Xj,AnyV.int (c.Xe.length:Int)])).bind λD=>(CR ([108,105,102,101]:Str) D).bind λk=>(DW g.2 k).bind λl=>(Qr (λ(h:Int×Str)=>if decide (h.1<(c.Xg.length:Int)) then (idx c.Xg h.1).bind λi=>(CR ([109,111,118,101]:Str) [AnyV.int i.a0,AnyV.int i.a1]).bind λm=>(DW h.2 m).bind λn=>some (.inl (i64.wrap (h.1+1),n)) else some (.inr h.2)) (0,l)).bind λE=>some (.inl (i64.wrap (g.1+1),E)) else some (.inr g.2)) (0,C)).bind λF=>(Qr (λ(j:Int×Str)=>if decide (j.1<(b.Xc.length:Int)) then (idx b.Xc j.1).bind λa=>(Ho a.A).bind λo=>(Ho a.B).bind λp=>(CR ([114,117,108,101]:Str) [AnyV.str a.Xj,AnyV.str a.Xi,AnyV.str o,AnyV.str p,AnyV.int a.N]).bind λq=>(DW j.2 q).bind λr=>some (.inl (i64.wrap (j.1+1),r)) else some (.inr j.2)) (0,F)).bind λH=>(GW H).bind λs=>some s
instance vI:SpcS prog 184 (∀{t r},Ln t=some r->FnOk prog 184 [Qb.ty t] [glo] (λ_=>[]) (λ_=>tv (.string (sB r)))):=.mk λ{t r} h=>by
 refine Fe func184 ntmps184 λM0 M w0 u=>?_
 apply Qa 2
 refine QU [v1 0 (λv0=>bld ([]:Str) v0 nilV)] [1] 6 (λa=>?_) (λ_=>by refine' rx (.m [] [1] rfl rfl rfl (UK bInfo)) 0 ?_;exact rnn)
 have⟨_,_,t0,h0,e3,h1,h⟩:=bs3 h
 refine QU [v1 5 (λv0=>bld t0 (a 0) v0)] [6] 384 (λm1=>?_) (λ_=>by refine' pr 5 ?_;refine' rx (.e [] [1] [2] rfl rfl rfl rfl (QO cal (FB h0) (.cons (.of z5)<|.cons (.of z0)<|.nil))) 0 ?_;exact rnn)
 refine Qf λK0 k0=>?_
 apply Qa 124
 refine tJq (λ_ _=>[]) 773 (λp0 v=>[bld p0 (a 0) v]) 130 K0 (·=e3) (λp0 v b=>?_) λJ0=>?_
 ·subst b
  apply k0
  refine Qf λK1 k1=>?_
  apply Qa 124
  have⟨e4,h2,h⟩:=bs h
  refine tJq (λ_ _=>[]) 773 (λp1 w=>[bld p1 (a 0) w]) 130 K1 (·=e4) (λp1 w b=>?_) λJ1=>?_
  ·subst b
   apply k1
   refine Qf λK2 k2=>?_
   apply Qa 60
   have⟨e5,h3,h⟩:=bs h
   have J2:∀y y2,y=e5->To M w0 132 [(3,tv (a 0))] [glo,bld y (a 0) y2] K2:=by
    intro y y2 b;subst b;apply k2;have⟨_,h4,h⟩:=bs h;refine QU [] [] 4 (λm2=>?_) (λ_=>by refine' rx (.e [] [1] [] rfl rfl rfl rfl (QO cal (UL h4) (.cons (.of z0)<|.nil))) 1 ?_;exact rnn);exact tRE h u
   refine Qk <|AT h3 (λs0 j=>[(106,ti s0.1)]) 10502530 (λs0 j=>[bld s0.2 (a 0) j]) 130 w 30 ?_;intro s0 j o K3 h c k3;apply Qa 62;refine Qf λ_ k4=>Qo h (λ_ h=>?_) λ_ h=>?_
   ·refine Qu <|k4 <|Qf λ_ k5=>Qk ?_;have⟨t1,_,_,_,_,_,_,_,h⟩:=bs4 h;refine QU [vb 2 (QV.cs zz3),vb 2 (QV.cs t1)] [3,4] 488 λm3=>?_;apply tFz 2;have⟨t2,h5,h⟩:=bs h;refine AB [v1 19 (λv0=>bld t2 (a 0) v0)] [20] 62914560 (λm4=>?_) (λ_=>by refine' pr 19 ?_;refine' rx (.e [] [1] [2] rfl rfl rfl rfl (QO cal (FB h5) (.cons (.of z23)<|.cons (.of z0)<|.nil))) 0 ?_;exact rnn);refine k5 <|QJ 60 ?_;exact Q7 k3 (m4 19) (sy h) 16810757
   refine QQ <|Q7 J2 j (c _ (sy h)) 32
  refine Qk <|AT h2 (λk l=>[(57,ti k.1)]) 1621115266 (λk l=>[bld k.2 (a 0) l]) 130 v 62 ?_;intro k l o K4 h c k6;apply Qa 126;refine Qf λ_ k7=>Qo h (λ_ h=>?_) λ_ h=>?_
  ·refine Qu <|k7 <|Qf λK5 k8=>Qk ?_;have⟨z,_,e6,h6,h⟩:=bs2 h;refine QU [vb 2 (Qs.cs zz2),vb 2 (Qs.cs z)] [3,4] 1000 λm5=>?_;apply tFz 2;refine QU [vo 7 (rAny 3 9) 20 [AnyV.str z.Xj,AnyV.int (z.Xe.length:Int)]] [8] 65280 λm6=>?_;refine Qf λK6 k9=>Qa 8188 ?_;refine tJq (λ_ f=>[(10,tv f)]) 2081665 (λA f=>[own (rAny 3 9) 20 A f]) 16770 K6 (·=e6) (λA f b=>?_) λJ3=>?_
   ·subst b;apply k9;have⟨_,h7,t4,h8,e7,h9,h⟩:=bs3 h;refine QU [v1 2 (λv0=>bld t4 (a 0) v0)] [3] 2034 (λm7=>?_) (λ_=>by refine' pr 1 ?_;refine' rx (.u [0,2] rfl rfl ((CY [own (rAny 3 9) 20 A f] cal (UJ.ok h7) (.cons (.of .k)<|.cons (.own z0 (.head _))<|.nil) (λ_=>Ah) (λ_=>EY (x:=undef))).glo)) 0 ?_;refine' rx (.e [] [1] [3] rfl rfl rfl rfl (QO cal (FB h8) (.cons (.of z7)<|.cons (.of z0)<|.nil))) 0 ?_;exact rnn);apply Qa 8060;refine tJq (λ_ _=>[]) 16263 (λp4 B=>[bld p4 (a 0) B]) 130 K5 (·=e7) (λp4 B b=>?_) λJ4=>?_
    ·subst b;refine k8 <|QJ 124 ?_;exact Q7 k6 B (sy h) 2701165317
    refine Qk <|Q1 (λ_ _ H=>(H.pick [0,1,2,5,6,7,8,9]).Xk [0,2] rfl) ?_;refine AT h9 (λm n=>[(88,ti m.1)]) 34101805442 (λm n=>[bld m.2 (a 0) n]) 130 (m7 2) 510 ?_;intro m n o K7 h c C;apply Qa 1022;refine Qf λ_ D=>Qo h (λ_ h=>?_) λ_ h=>?_
    ·refine Qu <|D <|Qf λ_ E=>Qk ?_;have⟨t5,_,_,_,t6,F,h⟩:=bs3 h;refine QU [vb 2 (Af.cs (AS.mk (0:Int) (0:Int))),vb 2 (Af.cs t5)] [3,4] 8168 λm8=>?_;apply tFz 2;refine AB [v1 8 (λv0=>bld t6 (a 0) v0)] [9] 522240 (λm9=>?_) (λ_=>by refine' pr 8 ?_;refine' rx (.e [] [1] [2] rfl rfl rfl rfl (QO cal (FB F) (.cons (.of z15)<|.cons (.of z0)<|.nil))) 0 ?_;exact rnn);refine E <|QJ 1020 ?_;exact Q7 C (m9 8) (sy h) 9069186923922181
    refine QQ <|Q7 J4 n (c _ (sy h)) 992
   refine Qk <|AT h6 (λg i=>[(72,ti g.1),(10,tv i)]) 4365567934850 (λg i=>[own (rAny 3 9) 20 g.2 i]) 16770 (m6 7) 4078 ?_;intro g i o K8 h c I;apply Qa 4094;refine Qf λ_ K=>Qo h (λ_ h=>?_) λ_ h=>?_
   ·refine Qu <|K <|Qf λ_ L=>Qk ?_;have⟨t7,_,_,_,h⟩:=bs2 h;apply Qa 32744;refine AB [vo 4 (rAny 3 9) 20 (g.2++[AnyV.str t7])] [5] 130912 λN=>?_;refine L <|QJ 8188 ?_;exact Q7 I (N 4) (sy h) 204365540643739567369
   refine QQ <|Q7 J3 i (c _ (sy h)) 4064
  refine QQ <|Q7 J1 l (c _ (sy h)) 96
 refine Qk <|AT h1 (λp q=>[(26,ti p.1)]) 1621115266 (λp q=>[bld p.2 (a 0) q]) 130 (m1 5) 62 ?_;intro p q o K9 h c O;apply Qa 126;refine Qf λ_ P=>Qo h (λ_ h=>?_) λ_ h=>?_
 ·refine Qu <|P <|Qf λQ R=>Qk ?_;have⟨t8,_,_,_,t9,S,e8,T,h⟩:=bs4 h;refine QU [vb 2 (Qq.cs zz1),vb 2 (Qq.cs t8)] [3,4] 1000 λa2=>?_;apply tFz 2;refine QU [v1 11 (λv0=>bld t9 (a 0) v0)] [12] 516096 (λU=>?_) (λ_=>by refine' pr 11 ?_;refine' rx (.e [] [1] [2] rfl rfl rfl rfl (QO cal (FB S) (.cons (.of z15)<|.cons (.of z0)<|.nil))) 0 ?_;exact rnn);apply Qa 2012;refine tJq (λ_ _=>[]) 16261 (λp5 e=>[bld p5 (a 0) e]) 130 Q (·=e8) (λp5 e b=>?_) λJ5=>?_
  ·subst b;refine R <|QJ 124 ?_;exact Q7 O e (sy h) 2701165317
  refine Qk <|AT T (λs d=>[(45,ti s.1)]) 34101805442 (λs d=>[bld s.2 (a 0) d]) 130 (U 11) 510 ?_;intro s d o a3 h c V;apply Qa 1022;refine Qf λ_ W=>Qo h (λ_ h=>?_) λ_ h=>?_
  ·refine Qu <|W <|Qf λ_ X=>Qk ?_;have⟨Y,_,_,_,Z,a0,h⟩:=bs3 h;refine QU [vb 2 (Qd.cs zz0),vb 2 (Qd.cs Y)] [3,4] 8168 λa4=>?_;apply tFz 2;refine AB [v1 2 (λv0=>bld Z (a 0) v0)] [3] 8160 (λa1=>?_) (λ_=>by refine' pr 2 ?_;refine' rx (.e [] [1] [2] rfl rfl rfl rfl (QO cal (FB a0) (.cons (.of z9)<|.cons (.of z0)<|.nil))) 0 ?_;exact rnn);refine X <|QJ 1020 ?_;exact Q7 V (a1 2) (sy h) 9069186923922181
  refine QQ <|Q7 J5 d (c _ (sy h)) 992
 refine QQ <|Q7 J0 q (c _ (sy h)) 96
