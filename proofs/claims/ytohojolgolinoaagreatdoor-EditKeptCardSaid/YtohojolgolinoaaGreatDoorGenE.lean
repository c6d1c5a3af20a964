/- The walk. No condition. -/
import Derived.Test.YtohojolgolinoaaGreatDoorGenB
import Derived.Test.YtohojolgolinoaaGreatDoorGenC
import Derived.Test.YtohojolgolinoaaGreatDoorGenD
set_option linter.all false
open List Go.Proofs.Tryz Go.IntKind
namespace Go.Proofs.YtohojolgolinoaaGreatDoor
noncomputable section
open Go.Sim
set_option maxRecDepth 100000
set_option maxHeartbeats 4000000
def I0 (a:(List Str)):Option Bool:=(Qr (λ(s0:Int)=>((if decide (s0<(a.length:Int)) then (idx a s0).bind λb=>(DQ b).bind λc=>if !c then some (.inr (.inr false)) else some (.inl (i64.wrap (s0+1))) else some (.inr (.inl ()))):Option (Int⊕(Unit⊕Bool)))) 0).bind λd=>(match d with | .inl _=>(some true) | .inr e=>some e)
instance uB:Spc1 prog 224 I0 (λc=>[tsl rS c]) tb:=.mk λ{c r} h=>by
 refine Fe func224 ntmps224 λs M i a=>?_
 apply Qa 4
 refine Qf λj k=>?_
 apply Qa 6
 have⟨d,h0,h⟩:=bs h
 have l:∀e,(.inl e)=d->To M i 16 [] [] j:=by
  intro e b;subst b;simp only at h;refine k <|Qa 2 ?_;exact tRE h a
 refine tJr (λf=>[(2,tb f)]) 1 (λ_=>[]) 0 (.inr ·=d) (λf b=>?_) λm=>?_
 ·subst b;simp only at h;exact oRE h a
 refine Qk <|AC h0 (λs0=>[(3,ti s0)]) 385 (λs0=>[]) 0 6 ?_;intro s0 o t h g n;refine Qf λ_ p=>Qa 112 ?_;apply Qo h<;>intro _ h
 ·refine Qu <|p <|Qf λ_ q=>Qk ?_;have⟨_,_,_,_,h⟩:=bs2 h;apply Qa 832;apply Qo h<;>intro _ h
  ·apply Qa 2;apply AG;exact Qx m (g _ (sy h)) 2
  refine Qu <|q <|QJ 40 ?_;exact Qx n (sy h) 6
 refine QQ <|Qx l (g _ (sy h)) 0
def L7 (a:Qe):Option Bool:=(Qr (λ(s0:Int×Int)=>((if decide (s0.1<(a.Xf.length:Int)) then (idx a.Xf s0.1).bind λd=>(C4 d 0 1048576).bind λe=>if !e then some (.inr (.inr false)) else (idx a.Xf s0.1).bind λf=>some (.inl (i64.wrap (s0.1+1),i64.wrap (s0.2+f))) else some (.inr (.inl s0.2))):Option ((Int×Int)⊕(Int⊕Bool)))) (0,0)).bind λg=>(match g with | .inl b=>(C4 (a.Words.length:Int) 1 12).bind λc=>(opt (((c&&((a.Words.length:Int)==(a.Xf.length:Int)))&&(decide (b>0)))==true) (I0 a.Words) default).bind λh=>(some (((c&&((a.Words.length:Int)==(a.Xf.length:Int)))&&(decide (b>0)))&&h)) | .inr i=>some i)
instance uC:Spc1 prog 259 L7 (λc=>[Qd.ty c]) tb:=.mk λ{c r} h=>by
 refine Fe func259 ntmps259 λq M s a=>?_
 apply Qa 2
 apply Qa 6
 refine Qf λi j=>?_
 apply Qa 14
 have⟨d,h0,h⟩:=bs h
 refine tJp (λe=>[(3,ti e)]) 513 (λ_=>[]) 0 i (.inl ·=d) (λe b=>?_) λk=>?_
 ·subst b
  simp only at h
  apply j
  have⟨_,_,_,_,h⟩:=bs2 h
  apply Qa 8388608
  exact tRE h a
 refine tJr (λf=>[(2,tb f)]) 1 (λ_=>[]) 0 (.inr ·=d) (λf b=>?_) λl=>?_
 ·subst b
  simp only at h
  exact oRE h a
 apply Qk
 refine AC h0 (λs0=>[(4,ti s0.1),(3,ti s0.2)]) 65665 (λs0=>[]) 0 14 ?_
 intro s0 o t h g m
 refine Qf λ_ n=>?_
 apply Qa 480
 apply Qo h<;>intro _ h
 ·apply Qu
  apply n
  refine Qf λ_ p=>?_
  apply Qk
  have⟨_,_,_,_,h⟩:=bs2 h
  refine tIfs h 3712 (λ_ h=>?_) λ_ h=>?_
  ·apply Qa 2
   apply AG
   exact Qx l (g _ (sy h)) 2
  have⟨_,_,h⟩:=bs h
  apply QJ 3328
  apply p
  apply QJ 56
  exact Qx m (sy h) 14
 apply QQ
 exact Qx k (g _ (sy h)) 24
def L5 (a:Qm):Option Bool:=(DQ a.Xj).bind λb=>(opt ((!b)==false) (C4 (a.Xe.length:Int) 1 12) default).bind λd=>(opt (((!b)||(!d))==false) (I0 a.Xe) default).bind λe=>(if (((!b)||(!d))||(!e))||(decide ((a.Xg.length:Int)>32)) then some false else (Qr (λ(s0:Int)=>((if decide (s0<(a.Xg.length:Int)) then (idx a.Xg s0).bind λf=>(C4 f.a0 0 (i64.wrap ((a.Xe.length:Int) - 1))).bind λc=>(opt ((!c)==false) (idx a.Xg s0) default).bind λg=>(opt ((!c)==false) (C4 g.a1 0 (i64.wrap ((a.Xe.length:Int) - 1))) default).bind λh=>(if (!c)||(!h) then some (.inr (.inr false)) else some (.inl (i64.wrap (s0+1)))) else some (.inr (.inl ()))):Option (Int⊕(Unit⊕Bool)))) 0).bind λi=>(match i with | .inl _=>(some true) | .inr j=>some j))
instance uD:Spc1 prog 189 L5 (λc=>[Qs.ty c]) tb:=.mk λ{c r} h=>by
 refine Fe func189 ntmps189 λs M i a=>?_
 apply Qa 2
 have⟨_,_,_,_,_,_,h⟩:=bs3 h
 refine tIfs h 25165824 (λ_ h=>?_) λ_ h=>?_
 ·apply Qa 2
  exact tRE h a
 refine Qf λj k=>?_
 apply Qa 10
 have⟨d,h0,h⟩:=bs h
 have l:∀e,(.inl e)=d->To M i 60 [] [] j:=by
  intro e b;subst b;simp only at h;refine k <|Qa 2 ?_;exact tRE h a
 refine tJr (λf=>[(2,tb f)]) 1 (λ_=>[]) 0 (.inr ·=d) (λf b=>?_) λm=>?_
 ·subst b;simp only at h;exact oRE h a
 refine Qk <|AC h0 (λs0=>[(3,ti s0)]) 385 (λs0=>[]) 0 6 ?_;intro s0 o t h g n;refine Qf λ_ p=>Qa 224 ?_;apply Qo h<;>intro _ h
 ·refine Qu <|p <|Qf λ_ q=>Qk ?_;have⟨_,_,_,_,_,_,_,_,h⟩:=bs4 h;apply Qa 872415232;apply Qo h<;>intro _ h
  ·apply Qa 2;apply AG;exact Qx m (g _ (sy h)) 2
  refine Qu <|q <|QJ 40 ?_;exact Qx n (sy h) 6
 refine QQ <|Qx l (g _ (sy h)) 0
def L6 (a:QL):Option Bool:=(opt ((a.A !=([]:Str))==true) (DQ a.A) default).bind λc=>(opt ((((a.A !=([]:Str))&&(!c))==false)&&((a.B !=([]:Str))==true)) (DQ a.B) default).bind λe=>(if (((a.A !=([]:Str))&&(!c))||((a.B !=([]:Str))&&(!e)))||((a.A==([]:Str))&&(a.B==([]:Str))) then some false else (DQ a.Xj).bind λb=>(opt (b==true) (DQ a.Xi) default).bind λd=>(opt ((b&&d)==true) (C4 a.N (-1048576) 1048576) default).bind λf=>some ((b&&d)&&f))
instance uE:Spc1 prog 190 L6 (λb=>[QV.ty b]) tb:=.mk λ{b r} h=>by
 refine Fe func190 ntmps190 λc M d a=>?_
 apply Qa 2
 have⟨_,_,_,_,h⟩:=bs2 h
 refine tIfs h 3221225472 (λ_ h=>?_) λ_ h=>?_
 ·apply Qa 2
  exact tRE h a
 have⟨_,_,_,_,_,_,h⟩:=bs3 h
 apply Qa 16384
 exact tRE h a
def Fu (c:Qc) (a:Int) (b:Int):Option Int:=(MO c a b).bind λi=>if !i then some (-1) else (idx c.Xa a).bind λj=>(idx j.Xb b).bind λe=>jn (λ(g:Qe)=>if g.Xi !=1 then some (-1) else (EZ c g.Of).bind λh=>if decide (h>=a) then some (-1) else some h) λd=>(if (e.Xi==7)||(e.Xi==8) then (idx c.Xa a).bind λk=>(FA k e.Up).bind λf=>(if (decide (f<0))||(decide (f>=b)) then some (-1) else (idx c.Xa a).bind λl=>(idx l.Xb f).bind λm=>d m) else d e)
instance uF:Spc3 prog 57 Fu (λf b a=>[Qb.ty f,ti b,ti a]) ti:=.mk λ{f b a r} h=>by
 refine Fe func57 ntmps57 λo M p c=>?_
 apply Qa 50
 have⟨_,_,h⟩:=bs h
 refine tIfs h 480 (λ_ h=>?_) λ_ h=>?_
 ·apply Qa 2
  exact tRE h c
 have⟨_,_,k,_,h⟩:=bs2 h
 refine QU [vb 9 (Qd.cs zz0),vb 9 (Qd.cs k)] [10,11] 29696 λg=>?_
 refine Qf λl m=>?_
 apply Qa 7936
 have⟨e,d,h⟩:=JL h
 refine tJp (λ_=>[]) 82435 (λi=>[box (Qd.cs i) (g 9)]) 1 l (e ·=some r) (λi h=>?_) λj=>?_
 ·rw[d] at h
  clear d
  apply m
  refine tIfs h 120 (λ_ h=>?_) λ_ h=>?_
  ·apply Qa 2
   refine Q1 (λ_ _ H=>H.Xk [] rfl) ?_
   exact tRE h c
  have⟨_,_,h⟩:=bs h
  apply Qa 544
  refine Q1 (λ_ _ H=>H.Xk [] rfl) ?_
  refine tIfs h 24 (λ_ h=>?_) λ_ h=>?_
  ·apply Qa 2
   exact tRE h c
  apply Qa 4
  exact tRE h c
 clear d
 apply Qo h<;>intro _ h
 ·have⟨_,_,_,_,h⟩:=bs2 h
  apply Qa 31232
  refine tIfs h 3968 (λ_ h=>?_) λ_ h=>?_
  ·apply Qa 2
   refine Q1 (λ_ _ H=>H.Xk [] rfl) ?_
   exact tRE h c
  have⟨_,_,n,_,h⟩:=bs2 h
  refine AB [v0 (box (Qd.cs n) (g 9))] [10] 28672 λq=>?_
  exact Qx j h 14
 apply Qu
 exact Qx j h 28
def Mm (c:Qc) (a:Int) (b:Int):Option (Int×Lz):=(idx c.Xa a).bind λi=>(idx i.Xb b).bind λd=>(EZ c d.Of).bind λe=>(if (d.Xi !=6)||(decide (e<=a)) then some (-1,[]) else (idx c.Xa e).bind λf=>(Qr (λ(s0:Int×Lz)=>if decide (s0.1<(f.Xb.length:Int)) then (idx f.Xb s0.1).bind λg=>(opt ((g.Xi==7)==true) (idx f.Xb s0.1) default).bind λh=>(opt (((g.Xi==7)&&(h.Of==d.Xj))==true) (Fu c e s0.1) default).bind λj=>(if ((g.Xi==7)&&(h.Of==d.Xj))&&(j==a) then (rm (s0.2.length+[s0.1].length)).bind λ_=>some (s0.2++[s0.1]) else some s0.2).bind λk=>some (.inl (i64.wrap (s0.1+1),k)) else some (.inr s0.2)) (0,[])).bind λl=>some (e,l))
instance uG:Spc3 prog 192 Mm (λi b a=>[Qb.ty i,ti b,ti a]) (λr=>ttup [ti r.1,tsl rI r.2]):=.mk λ{i b a r} h=>by
 refine Fe func192 ntmps192 λC M k d=>?_
 apply Qa 98
 have⟨_,_,l,_,m,_,h⟩:=bs3 h
 refine QU [vb 9 (Qd.cs zz0),vb 9 (Qd.cs l)] [10,11] 7168 λD=>?_
 apply tFz 0
 apply Qa 480
 refine tIfs h 7936 (λ_ h=>?_) λ_ h=>?_
 ·apply Qa 6
  exact tRE h d
 apply Qa 122
 apply tNl rI 3
 have⟨_,_,n,h0,h⟩:=bs2 h
 apply Qa 8064
 refine Qf λp q=>?_
 apply Qa 254
 have s:∀f g,f=n->To M k 76 [(10,tv g),(9,ti m)] [own rI 3 f g] p:=by
  intro f g t;subst t;refine q <|Qa 60 ?_;apply AG;refine AA (by intro _ _ H;exact (H.Xn 2 rfl).pick [0,2]) ?_;exact oRE h d
 refine Qk <|AT h0 (λs0 c=>[(12,ti s0.1),(10,tv c)]) 34101805441 (λs0 c=>[own rI 3 s0.2 c]) 1 (.slice none 0 0) 254 ?_;intro s0 c o E h u v;refine Qf λ_ w=>Qa 4080 ?_;apply Qo h<;>intro _ h
 ·refine Qu <|w <|Qf λx y=>Qk ?_;have⟨_,_,_,_,_,_,z,A,h⟩:=bs4 h;apply Qa 8539602944;refine tJ1 (λe=>[(10,tv e)]) 34103951745 (λe=>[own rI 3 z e]) 1 x (λe=>?_) λj=>?_
  ·refine y <|QJ 1016 ?_;exact Q7 v e (sy h) 61987669213955
  replace h:=A;apply Qo h<;>intro _ h
  ·have⟨_,_,h⟩:=bs h;refine AB [vo 3 rI 3 (s0.2++[s0.1])] [4] 8112 λB=>?_;cases sj h;exact QN (j (B 3)) 508
  apply Qu;cases sj h;exact QN (j c) 70853022810633
 refine QQ <|Q7 s c (u _ (sy h)) 48
def Mn (c:Qc) (b:Int) (a:Int):Option (Int×Qe):=(Fu c b a).bind λd=>if decide (d<0) then some (-1,zz0) else (idx c.Xa d).bind λf=>(idx c.Xa b).bind λg=>(idx g.Xb a).bind λh=>(FA f h.Of).bind λe=>if decide (e<0) then some (-1,zz0) else (idx c.Xa d).bind λi=>(idx i.Xb e).bind λj=>(idx c.Xa d).bind λk=>(idx k.Xb e).bind λl=>some (j.Xi,l)
instance uH:Spc3 prog 228 Mn (λe b a=>[Qb.ty e,ti b,ti a]) (λr=>ttup [ti r.1,Qd.ty r.2]):=.mk λ{e b a r} h=>by
 refine Fe func228 ntmps228 λi M j c=>?_
 refine QU [vb 2 (Qd.cs zz0)] [3] 106 λd=>?_
 have⟨_,_,h⟩:=bs h
 apply Qa 992
 refine tIfs h 252 (λ_ h=>?_) λ_ h=>?_
 ·refine QU [v0 (box (Qd.cs zz0) (d 2))] [3] 68 λk=>?_
  exact tRE h c
 have⟨_,_,_,_,_,_,_,_,h⟩:=bs4 h
 apply Qa 3801088
 refine tIfs h 124 (λ_ h=>?_) λ_ h=>?_
 ·refine QU [v0 (box (Qd.cs zz0) (d 2))] [3] 132 λl=>?_
  exact tRE h c
 have⟨_,h0,f,g,h⟩:=bs2 h
 replace h:=bk h0 h
 replace h:=bk g h
 refine QU [v0 (box (Qd.cs f) (d 2))] [21] 34603008 λm=>?_
 exact tRE h c
def Pi (d:Qc) (a:Int) (b:Int) (e:Int):Option Int:=if decide (e<0) then some 12 else (Mn d a b).bind λc=>(idx d.Xa a).bind λf=>(idx f.Xb b).bind λg=>if g.Xi==7 then (opt ((c.1 !=6)==false) (EZ d (c.2).Of) default).bind λh=>(if (c.1 !=6)||(h !=a) then some 13 else some 0) else (if ((((decide (c.1<0))||(c.1==0))||(c.1==1))||(c.1==6))||(c.1==7) then some 13 else some 0)
instance uI:Spc4 prog 193 Pi (λe b a d=>[Qb.ty e,ti b,ti a,ti d]) ti:=.mk λ{e b a d r} h=>by
 refine Fe func193 ntmps193 λg M i c=>?_
 apply Qa 114
 refine tIfs h 60 (λ_ h=>?_) λ_ h=>?_
 ·apply Qa 2
  exact tRE h c
 have⟨f,_,_,_,_,_,h⟩:=bs3 h
 refine QU [vb 7 (Qd.cs zz0),vb 7 (Qd.cs f.2)] [8,10] 15104 λj=>?_
 apply tFz 0
 refine tIfs h 63488 (λ_ h=>?_) λ_ h=>?_
 ·have⟨_,_,h⟩:=bs h
  refine tIfs h 1024 (λ_ h=>?_) λ_ h=>?_
  ·apply Qa 2
   exact tRE h c
  apply Qa 2
  exact tRE h c
 refine tIfs h 262144 (λ_ h=>?_) λ_ h=>?_
 ·apply Qa 2
  exact tRE h c
 apply Qa 2
 exact tRE h c
def LD (d:Qc) (a:Lz):Option Bool:=(Qr (λ(s0:Int)=>((if decide (s0<(a.length:Int)) then (Qr (λ(c:Int)=>((idx d.Xa s0).bind λf=>(if decide (c<(f.Xb.length:Int)) then (Fu d s0 c).bind λb=>(opt ((decide (b>=0))==true) (idx a s0) default).bind λe=>(opt (((decide (b>=0))&&(decide (e>0)))==true) (idx a b) default).bind λg=>if ((decide (b>=0))&&(decide (e>0)))&&(g==0) then some (.inr (.inr false)) else some (.inl (i64.wrap (c+1))) else some (.inr (.inl ()))):Option (Int⊕(Unit⊕Bool)))) 0).bind λh=>(match h with | .inl _=>(some (.inl (i64.wrap (s0+1)))) | .inr i=>some (.inr (.inr i))) else some (.inr (.inl ()))):Option (Int⊕(Unit⊕Bool)))) 0).bind λj=>(match j with | .inl _=>(some true) | .inr k=>some k)
instance uJ:Spc2 prog 19 LD (λf a=>[Qb.ty f,tsl rI a]) tb:=.mk λ{f a r} h=>by
 refine Fe func19 ntmps19 λD M m c=>?_
 apply Qa 18
 refine Qf λn p=>?_
 apply Qa 14
 have⟨g,h0,h⟩:=bs h
 have q:∀i,(.inl i)=g->To M m 45 [] [] n:=by
  intro i b;subst b;simp only at h;refine p <|Qa 2 ?_;exact tRE h c
 refine tJr (λj=>[(4,tb j)]) 1 (λ_=>[]) 0 (.inr ·=g) (λj b=>?_) λs=>?_
 ·subst b;simp only at h;exact oRE h c
 refine Qk <|AC h0 (λs0=>[(5,ti s0)]) 65921 (λs0=>[]) 0 14 ?_;intro s0 o E h d t;refine Qf λ_ u=>Qa 240 ?_;apply Qo h<;>intro _ h
 ·refine Qu <|u <|Qf λv w=>Qk <|Qa 58 ?_;have⟨k,x,h⟩:=bs h;refine tJp (λ_=>[]) 16259 (λ_=>[]) 0 v (.inl ·=k) (λF b=>?_) λy=>?_
  ·subst b;simp only at h;refine w <|QJ 56 ?_;exact Qx t (sy h) 14
  refine tJr (λl=>[(4,tb l)]) 1 (λ_=>[]) 0 (.inr ·=k) (λl b=>?_) λz=>?_
  ·subst b;simp only at h;exact Qx s (d _ (sy h)) 2
  refine Qk <|AC x (λe=>[(6,ti e)]) 2081153 (λe=>[]) 0 30 ?_;intro e o H h d A;refine Qf λ_ B=>?_;have⟨_,_,h⟩:=bs h;apply Qa 15872;apply Qo h<;>intro _ h
  ·refine Qu <|B <|Qf λ_ C=>Qk ?_;have⟨_,_,_,_,_,_,h⟩:=bs3 h;apply Qa 1952;apply Qa 3997696;apply Qo h<;>intro _ h
   ·apply Qa 2;apply AG;exact Qx z (d _ (sy h)) 2
   refine Qu <|C <|QJ 232 ?_;exact Qx A (sy h) 30
  refine QQ <|Qx y (d _ (sy h)) 56
 refine QQ <|Qx q (d _ (sy h)) 0
def GT (b:Az) (a:Int):Option (List Qi):=(mk a 0).bind λh=>(Qr (λ(s0:Int×Lz)=>if decide (s0.1<(b.old.length:Int)) then (idx b.old s0.1).bind λd=>(if (decide (d>=0))&&(decide (d<a)) then (idx s0.2 d).bind λi=>(setAt s0.2 d (i64.wrap (i+1))).bind λj=>some j else some s0.2).bind λk=>some (.inl (i64.wrap (s0.1+1),k)) else some (.inr s0.2)) (0,h)).bind λe=>(Qr (λ(c:Int×List Qi)=>if decide (c.1<(e.length:Int)) then (idx e c.1).bind λf=>(rm (c.2.length+[Qi.mk a c.1 0 f 0,Qi.mk a c.1 0 (b.old.length:Int) 1,Qi.mk c.1 (i64.wrap (a+1)) b.lo b.hi 0].length)).bind λ_=>some (.inl (i64.wrap (c.1+1),c.2++[Qi.mk a c.1 0 f 0,Qi.mk a c.1 0 (b.old.length:Int) 1,Qi.mk c.1 (i64.wrap (a+1)) b.lo b.hi 0])) else some (.inr c.2)) (0,[])).bind λg=>(rm (g.length+[Qi.mk (i64.wrap (a+1)) a (b.old.length:Int) (b.old.length:Int) 0].length)).bind λ_=>some (g++[Qi.mk (i64.wrap (a+1)) a (b.old.length:Int) (b.old.length:Int) 0])
instance eX:SpcS prog 61 (∀{b a r},GT b a=some r->FnOk prog 61 [tptr (OB.cs b),ti a] [] (λv=>[own QE 187 r v]) (λv=>tv v)):=.mk λ{b a r} h=>by
 refine Fe func61 ntmps61 λR M S g=>?_
 apply Qa 12
 apply Qa 448
 have⟨n,_,p,h0,h⟩:=bs2 h
 refine QU [vo 1 rI 3 n] [2] 124 λd=>?_
 refine Qf λq s=>?_
 apply Qa 4080
 refine tJp (λ_=>[]) 16262 (λl=>[own rI 3 l (d 1)]) 1 q (·=p) (λl i=>?_) λt=>?_
 ·subst i
  apply s
  apply Qa 62
  apply tNl QE 187
  refine Qf λu w=>?_
  apply Qa 510
  have⟨x,y,h⟩:=bs h
  refine tJq (λ_ e=>[(9,tv e)]) 148353 (λj e=>[own QE 187 j e]) 1 u (·=x) (λj e i=>?_) λz=>?_
  ·subst i
   apply w
   have⟨_,_,h⟩:=bs h
   refine QU [vo 8 QE 187 (j++[Qi.mk (i64.wrap (a+1)) a (b.old.length:Int) (b.old.length:Int) (0:Int)])] [9] 1536 λA=>?_
   exact Qp h (·▸AO (A 8) [0] g)
  apply Qk
  refine AT y (λs0 c=>[(44,ti s0.1),(9,tv c)]) 4365567934850 (λs0 c=>[own QE 187 s0.2 c]) 385 (.slice none 0 0) 478 ?_
  intro s0 c o T h k B
  apply Qa 510
  refine Qf λ_ C=>?_
  apply Qo h<;>intro _ h
  ·apply Qu
   apply C
   refine Qf λ_ D=>?_
   apply Qk
   have⟨E,_,_,_,h⟩:=bs2 h
   apply Qa 16304
   refine AB [vo 22 QE 187 (s0.2++[Qi.mk a s0.1 (0:Int) E (0:Int),Qi.mk a s0.1 (0:Int) (b.old.length:Int) (1:Int),Qi.mk s0.1 (i64.wrap (a+1)) b.lo b.hi (0:Int)])] [23] 8480882688 λF=>?_
   apply D
   apply QJ 1020
   refine AA (λ_ _ H=>(H.pick [3,4,0,2,5,6,7]).Xk [1,0] rfl) ?_
   exact Q7 B (F 22) (sy h) 254
  apply QQ
  refine AA (λ_ _ H=>(H.pick [4,5,7]).Xk [0] rfl) ?_
  exact Q7 z c (k _ (sy h)) 14
 apply Qk
 refine AC h0 (λf=>[(24,ti f.1)]) 34103902594 (λf=>[own rI 3 f.2 (d 1)]) 1 494 ?_
 intro f o U h k I
 apply Qa 510
 refine Qf λ_ K=>?_
 apply Qo h<;>intro _ h
 ·apply Qu
  apply K
  refine Qf λL N=>?_
  apply Qk
  have⟨_,_,O,P,h⟩:=bs2 h
  apply Qa 4072
  apply Qa 65408
  refine tJ0 [] 16260 [own rI 3 O (d 1)] 1 L ?_ λm=>?_
  ·apply N
   apply QJ 508
   exact Qx I (sy h) 61987669181189
  replace h:=P
  apply Qo h<;>intro _ h
  ·have⟨_,_,Q,_,h⟩:=bs2 h
   refine AB [v0 (own rI 3 Q (d 1))] [7] 65026 λV=>?_
   cases sj h
   exact QN m 508
  apply Qu
  cases sj h
  exact QN m 1016
 apply QQ
 exact Qx t (k _ (sy h)) 480
theorem eY {S:Type} {Y:S->Int×Qm->Option (S⊕S)} {f:S} {b:List Qm} {r:S⊕S} (h:JD Y f b=some r):Pj prog 146 [tptr ((rSl Qs).cs b)] (λi=>.int .i64 i.1) (λi=>Qs.ty i.2) Y f r:=by
 intro l W g0 s;refine⟨λ_=>ttup [],?_⟩;unfold JD at h;refine fe func146 ntmps146 λI M t a c H=>?_;refine wp_seq_k (λv j=>?_);refine wr mx [] H (λ_=>.o (Q4 (R:=(rSl Qs)) (u:=b) KA z1)<|.o (Hz underlying24 z0)<|.o (Pk z0 .k)<|.o (Ql z0)<|.n) λ_ a w H=>?_;have H:=H.to [3,4,5] [_,_,_] [_] rfl rfl;apply j _ _;clear j v;apply wp_block;refine JM _ (λ(s0:Int×S) a w=>∃g:Value,St M t 19 [(3,ti s0.1),(0,tv (.func (.yield l) #[] #[])),(1,tptr ((rSl Qs).cs b))] [W (.inl s0.2) g] a w) _ _ h ⟨g0,H⟩ ?_;clear h;intro s0 o a w K x h k y;have⟨g1,H⟩:=x;refine wp_seq_k (λz m=>?_);refine wp_seq_k (λA n=>?_);refine wr mx [] H (λ_=>.q 0 rfl<|.o (UF z0 .k)<|.n) λ_ a w H=>?_;have H:=H.to [1,2,3,4] [_,_,_,_] [_] rfl rfl;apply n _ _;clear n A;refine wi H h (λB h=>?_) (λB h=>?_)
 ·have⟨C,h0,d,D,h⟩:=bs2 h;refine wp_skip (m _ _ ?_);clear m z;refine wp_seq_k (λ_ E=>?_);apply wp_block;refine wp_seq_k (λF p=>?_);refine CQ mixed [v1 6 (λv0=>W d v0)] H (λq=>.q 2 rfl<|.q 2 rfl<|.o (Q4 (R:=(rSl Qs)) (u:=b) KA z5)<|.q 4 rfl<|.o (JN underlying24 En z1 z0 h0)<|.o (Q4 (R:=Qs) (u:=C) En z0)<|.e [] [0] [1] rfl rfl rfl rfl (eZ z5 z4 z0 (s _ _ _ _ D))<|.o (Mo z0)<|.nil _ _) kr (λq a w H=>?_);have H:=H.to [7,9,10,11] [_,_,_,_] [_] rfl rfl;apply p _ _;clear p F;refine wt H (λe=>?_) (λe=>?_)
  ·cases d with
   | inl s3=>simp at e
   | inr s3=>
    simp only at h;apply wp_ret;obtain rfl:=k _ (sy h);exact rt (q 6) [0] c H .nil
  cases d with
  | inr s3=>simp at e
  | inl s3=>
   simp only at h;refine wp_skip (E _ _ ?_);refine wr mx [] H (λ_=>.q 1 rfl<|.o (Pk z0 .k)<|.o (Ql z0)<|.n) λ_ a w H=>?_;have H:=H.to [2,4,5] [_,_,_] [_] rfl rfl;exact y _ _ _ (sy h) ⟨_,H⟩
 apply wp_exit;obtain rfl:=k _ (sy h);exact UG g1 [0] c H rfl .nil rfl rfl rfl
def GF (c:(List (List Lz))) (d:(List (List Lz))):Option Int:=(Qr (λ(s0:Int×Int)=>if decide (s0.1<(c.length:Int)) then (idx c s0.1).bind λf=>(idx d s0.1).bind λg=>(Qr (λ(b:Int×Int)=>if decide (b.1<(imin (f.length:Int) (g.length:Int))) then (idx c s0.1).bind λh=>(idx h b.1).bind λe=>(Qr (λ(a:Int×Int)=>if decide (a.1<(e.length:Int)) then (idx e a.1).bind λi=>(idx d s0.1).bind λj=>(idx j b.1).bind λk=>(idx k a.1).bind λl=>(if i !=l then some (i64.wrap (a.2+1)) else some a.2).bind λm=>some (.inl (i64.wrap (a.1+1),m)) else some (.inr a.2)) (0,b.2)).bind λn=>some (.inl (i64.wrap (b.1+1),n)) else some (.inr b.2)) (0,s0.2)).bind λo=>some (.inl (i64.wrap (s0.1+1),o)) else some (.inr s0.2)) (0,0)).bind λp=>some p
instance eQ:Spc2 prog 30 (λ(c:(List (List Lz))) (d:(List (List Lz)))=>GF c d) (λ(c:(List (List Lz))) (d:(List (List Lz)))=>[tsl (rSl (rSl rI)) c,tsl (rSl (rSl rI)) d]) ti:=.mk λ{c d r} h=>by
 refine Fe func30 ntmps30 λQ M m g=>?_
 apply Qa 12
 apply Qa 14
 refine Qf λn p=>?_
 apply Qa 124
 have⟨q,h0,h⟩:=bs h
 have s:∀i,i=q->To M m 60 [(5,ti i)] [] n:=by
  intro i a;subst a;refine p <|Qa 4 ?_;exact tRE h g
 refine Qk <|AC h0 (λs0=>[(12,ti s0.1),(5,ti s0.2)]) 1621115010 (λs0=>[]) 0 62 ?_;intro s0 o R h b t;apply Qa 126;refine Qf λ_ u=>Qo h (λ_ h=>?_) λ_ h=>?_
 ·refine Qu <|u <|Qf λv w=>Qk <|Qa 500 ?_;have⟨_,_,_,_,x,y,h⟩:=bs3 h;apply Qa 522240;refine tJp (λj=>[(5,ti j)]) 2432713477 (λ_=>[]) 0 v (·=x) (λj a=>?_) λz=>?_
  ·subst a;refine w <|QJ 124 ?_;exact Qx t (sy h) 2701230341
  refine Qk <|AC y (λe=>[(26,ti e.1),(5,ti e.2)]) 5101769933783170 (λe=>[]) 0 510 ?_;intro e o S h b A;apply Qa 1022;refine Qf λ_ B=>Qo h (λ_ h=>?_) λ_ h=>?_
  ·refine Qu <|B <|Qf λC D=>Qk <|Qa 4084 ?_;have⟨_,_,_,_,E,F,h⟩:=bs3 h;apply Qa 524160;refine tJp (λk=>[(5,ti k)]) 7371163015709574 (λ_=>[]) 0 C (·=E) (λk a=>?_) λH=>?_
   ·subst a;refine D <|QJ 1020 ?_;exact Qx A (sy h) 9069186923987205
   refine Qk <|AC F (λf=>[(37,ti f.1),(5,ti f.2)]) 1978681505372334670758274 (λf=>[]) 0 8190 ?_;intro f o T h b I;apply Qa 16382;refine Qf λ_ K=>Qo h (λ_ h=>?_) λ_ h=>?_
   ·refine Qu <|K <|Qf λL N=>Qk ?_;have⟨_,_,_,_,_,_,_,_,h⟩:=bs4 h;apply Qa 524208;apply Qa 134189056;have⟨O,P,h⟩:=bs h;refine tJ0 [(5,ti O)] 2131070058165249276707201 [] 0 L ?_ λl=>?_
    ·refine N <|QJ 16380 ?_;exact Qx I (sy h) 3652788819343650934785031
    replace h:=P;apply Qo h<;>intro _ h
    ·apply QJ 65512;cases sj h;exact QN l 8190
    apply Qu;cases sj h;exact QN l 3957528886191379391283735
   refine QQ <|Qx H (b _ (sy h)) 16320
  refine QQ <|Qx z (b _ (sy h)) 992
 refine QQ <|Qx s (b _ (sy h)) 16
def JO (a:(List (List Lz))) (b:(List (List Lz))):Option Bool:=(JK a b (λx0 c=>MY x0 c)).bind λd=>some d
instance uK:Spc2 prog 10 (λ(a:(List (List Lz))) (b:(List (List Lz)))=>JO a b) (λ(a:(List (List Lz))) (b:(List (List Lz)))=>[tsl (rSl (rSl rI)) a,tsl (rSl (rSl rI)) b]) tb:=.mk λ{a b r} h=>by
 refine Fe func10 ntmps10 λd M e c=>?_
 apply Qa 12
 have⟨_,_,h⟩:=bs h
 apply Qa 16
 exact tRE h c
