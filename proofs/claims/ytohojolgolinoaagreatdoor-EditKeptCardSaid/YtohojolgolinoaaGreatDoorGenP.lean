/- The walk. No condition. -/
import Derived.Test.YtohojolgolinoaaGreatDoorGenI
import Derived.Test.YtohojolgolinoaaGreatDoorGenJ
import Derived.Test.YtohojolgolinoaaGreatDoorGenL
set_option linter.all false
open List Go.Proofs.Tryz Go.IntKind
namespace Go.Proofs.YtohojolgolinoaaGreatDoor
noncomputable section
open Go.Sim
set_option maxRecDepth 100000
set_option maxHeartbeats 4000000
def ND (a:Qc):Option Int:=(C4 a.Version 0 1048576).bind λd=>(if (((!d)||(decide ((a.Xa.length:Int)>6)))||(decide ((a.Xd.length:Int)>6)))||(decide ((a.Xc.length:Int)>16)) then some 1 else (Qr (λ(s0:Int)=>((if decide (s0<(a.Xa.length:Int)) then (idx a.Xa s0).bind λe=>(L9 e).bind λf=>if !f then some (.inr (.inr 1)) else some (.inl (i64.wrap (s0+1))) else some (.inr (.inl ()))):Option (Int⊕(Unit⊕Int)))) 0).bind λg=>(match g with | .inl _=>(Qr (λ(b:Int)=>((if decide (b<(a.Xd.length:Int)) then (idx a.Xd b).bind λh=>(L5 h).bind λi=>if !i then some (.inr (.inr 1)) else some (.inl (i64.wrap (b+1))) else some (.inr (.inl ()))):Option (Int⊕(Unit⊕Int)))) 0).bind λj=>(match j with | .inl _=>(Qr (λ(c:Int)=>((if decide (c<(a.Xc.length:Int)) then (idx a.Xc c).bind λk=>(L6 k).bind λl=>if !l then some (.inr (.inr 1)) else some (.inl (i64.wrap (c+1))) else some (.inr (.inl ()))):Option (Int⊕(Unit⊕Int)))) 0).bind λm=>(match m with | .inl _=>(M4 a).bind λn=>(if decide ((n.length:Int)>8192) then some 4 else some 0) | .inr o=>some o) | .inr p=>some p) | .inr q=>some q))
instance vR:Spc1 prog 148 ND (λi=>[Qb.ty i]) ti:=.mk λ{i r} h=>by
 refine Fe func148 ntmps148 λP M Q a=>?_
 apply Qa 2
 have⟨_,_,h⟩:=bs h
 refine tIfs h 12582912 (λ_ h=>?_) λ_ h=>?_
 ·apply Qa 2
  exact tRE h a
 refine Qf λq s=>?_
 apply Qa 10
 have⟨j,h0,h⟩:=bs h
 refine tJp (λ_=>[]) 3 (λ_=>[]) 0 q (.inl ·=j) (λR b=>?_) λt=>?_
 ·subst b
  simp only at h
  apply s
  refine Qf λu v=>?_
  apply Qa 6
  have⟨k,w,h⟩:=bs h
  refine tJp (λ_=>[]) 3 (λ_=>[]) 0 u (.inl ·=k) (λS b=>?_) λx=>?_
  ·subst b
   simp only at h
   apply v
   refine Qf λy z=>?_
   apply Qa 6
   have⟨l,A,h⟩:=bs h
   refine tJp (λ_=>[]) 3 (λ_=>[]) 0 y (.inl ·=l) (λT b=>?_) λB=>?_
   ·subst b
    simp only at h
    apply z
    have⟨_,_,h⟩:=bs h
    refine tIfs h 16 (λ_ h=>?_) λ_ h=>?_
    ·apply Qa 2
     exact tRE h a
    apply Qa 2
    exact tRE h a
   refine tJr (λm=>[(2,ti m)]) 1 (λ_=>[]) 0 (.inr ·=l) (λm b=>?_) λC=>?_
   ·subst b
    simp only at h
    exact oRE h a
   apply Qk
   refine AC A (λs0=>[(5,ti s0)]) 385 (λs0=>[]) 0 6 ?_
   intro s0 o U h c D
   refine Qf λ_ E=>?_
   apply Qa 224
   apply Qo h<;>intro _ h
   ·apply Qu
    apply E
    refine Qf λ_ F=>?_
    apply Qk
    have⟨_,_,_,_,h⟩:=bs2 h
    apply Qa 1664
    apply Qo h<;>intro _ h
    ·apply Qa 2
     apply AG
     exact Qx C (c _ (sy h)) 2
    apply Qu
    apply F
    apply QJ 40
    exact Qx D (sy h) 6
   apply QQ
   exact Qx B (c _ (sy h)) 8
  refine tJr (λn=>[(2,ti n)]) 1 (λ_=>[]) 0 (.inr ·=k) (λn b=>?_) λH=>?_
  ·subst b
   simp only at h
   exact oRE h a
  apply Qk
  refine AC w (λd=>[(4,ti d)]) 385 (λd=>[]) 0 6 ?_
  intro d o V h c I
  refine Qf λ_ K=>?_
  apply Qa 224
  apply Qo h<;>intro _ h
  ·apply Qu
   apply K
   refine Qf λ_ L=>?_
   apply Qk
   have⟨_,_,_,_,h⟩:=bs2 h
   apply Qa 1664
   apply Qo h<;>intro _ h
   ·apply Qa 2
    apply AG
    exact Qx H (c _ (sy h)) 2
   apply Qu
   apply L
   apply QJ 40
   exact Qx I (sy h) 6
  apply QQ
  exact Qx x (c _ (sy h)) 8
 refine tJr (λp=>[(2,ti p)]) 1 (λ_=>[]) 0 (.inr ·=j) (λp b=>?_) λN=>?_
 ·subst b
  simp only at h
  exact oRE h a
 apply Qk
 refine AC h0 (λe=>[(3,ti e)]) 385 (λe=>[]) 0 6 ?_
 intro e o W h c O
 refine Qf λ_ f=>?_
 apply Qa 224
 apply Qo h<;>intro _ h
 ·apply Qu
  apply f
  refine Qf λ_ g=>?_
  apply Qk
  have⟨_,_,_,_,h⟩:=bs2 h
  apply Qa 1664
  apply Qo h<;>intro _ h
  ·apply Qa 2
   apply AG
   exact Qx N (c _ (sy h)) 2
  apply Qu
  apply g
  apply QJ 40
  exact Qx O (sy h) 6
 apply QQ
 exact Qx t (c _ (sy h)) 8
def NE (b:Qc):Option (List QT):=(ND b).bind λp=>if p !=0 then (Do [] (-1) (-1) (-1) p).bind λq=>some q else (Qr (λ(s0:Int×List QT)=>if decide (s0.1<(b.Xd.length:Int)) then (Qr (λ(e:Int)=>if decide (e<s0.1) then (idx b.Xd e).bind λr=>(idx b.Xd s0.1).bind λs=>if r.Xj==s.Xj then (Do s0.2 (-1) s0.1 (-1) 7).bind λt=>some (.inr t) else some (.inl (i64.wrap (e+1))) else some (.inr s0.2)) 0).bind λu=>some (.inl (i64.wrap (s0.1+1),u)) else some (.inr s0.2)) (0,[])).bind λv=>(Qr (λ(a:Int×List QT)=>if decide (a.1<(b.Xa.length:Int)) then (idx b.Xa a.1).bind λf=>(idx b.Xa a.1).bind λw=>(EZ b w.Xj).bind λx=>(if decide (x<a.1) then (Do a.2 a.1 (-1) (-1) 7).bind λy=>some y else (MG f.Xb).bind λz=>(if !z then (Do a.2 a.1 (-1) (-1) 11).bind λg=>some g else some a.2).bind λA=>some A).bind λB=>(Qr (λ(c:Int×List QT)=>if decide (c.1<(f.Xb.length:Int)) then (idx b.Xa a.1).bind λh=>(idx f.Xb c.1).bind λi=>(FA h i.Xj).bind λj=>(if decide (j<c.1) then (Do c.2 a.1 c.1 (-1) 7).bind λk=>some k else (M1 b a.1 c.1).bind λl=>(Do c.2 a.1 c.1 (-1) l).bind λm=>some m).bind λC=>some (.inl (i64.wrap (c.1+1),C)) else some (.inr c.2)) (0,B)).bind λD=>some (.inl (i64.wrap (a.1+1),D)) else some (.inr a.2)) (0,v)).bind λE=>(Qr (λ(d:Int×List QT)=>if decide (d.1<(b.Xc.length:Int)) then (Mw b d.1).bind λn=>(Do d.2 (-1) (-1) d.1 n).bind λo=>some (.inl (i64.wrap (d.1+1),o)) else some (.inr d.2)) (0,E)).bind λF=>some F
instance vS:Spc1 prog 93 NE (λn=>[Qb.ty n]) (tsl At):=.mk λ{n r} h=>by
 refine Fe func93 ntmps93 λM0 M v f=>?_
 apply Qa 2
 have⟨_,_,h⟩:=bs h
 apply Qa 24
 refine tIfs h 28 (λ_ h=>?_) λ_ h=>?_
 ·refine Q1 (λ_ _ H=>H.nil At 163) ?_
  have⟨W,_,h⟩:=bs h
  refine QU [vo 1 At 163 W] [2] 12 λm0=>?_
  apply AG
  refine AA (by intro _ _ H;exact (H.Xn 1 rfl).pick [0]) ?_
  exact oRE h f
 apply Qa 18
 apply tNl At 163
 refine Qf λX Y=>?_
 apply Qa 14
 have⟨Z,h0,h⟩:=bs h
 have J0:∀w p,w=Z->To M v 122 [(4,tv p),(1,tptr (Qb.cs n))] [own At 163 w p] X:=by
  intro w p d;subst d;refine Y <|Qf λK1 k1=>Qa 14 ?_;have⟨e4,h1,h⟩:=bs h;have J1:∀x q,x=e4->To M v 122 [(4,tv q),(1,tptr (Qb.cs n))] [own At 163 x q] K1:=by
   intro x q d;subst d;refine k1 <|Qf λK2 k2=>Qa 14 ?_;have⟨e5,h2,h⟩:=bs h;have J2:∀y z,y=e5->To M v 122 [(4,tv z)] [own At 163 y z] K2:=by
    intro y z d;subst d;refine k2 <|Qa 14 ?_;apply AG;refine AA (by intro _ _ H;exact (H.Xn 1 rfl).pick [0]) ?_;exact oRE h f
   refine Qk <|AT h2 (λs0 g=>[(10,ti s0.1),(4,tv g)]) 65665 (λs0 g=>[own At 163 s0.2 g]) 1 q 14 ?_;intro s0 g o K3 h c k3;refine Qf λ_ k4=>Qa 480 ?_;apply Qo h<;>intro _ h
   ·refine Qu <|k4 <|Qf λ_ k5=>Qk ?_;have⟨_,_,t1,_,h⟩:=bs2 h;refine AB [vo 5 At 163 t1] [6] 1728 λm1=>?_;refine k5 <|QJ 120 ?_;exact Q7 k3 (m1 5) (sy h) 26
   refine QQ <|Q7 J2 g (c _ (sy h)) 8
  refine Qk <|AT h1 (λs e=>[(7,ti s.1),(4,tv e)]) 65665 (λs e=>[own At 163 s.2 e]) 1 p 14 ?_;intro s e o K4 h c k6;refine Qf λ_ k7=>Qa 480 ?_;apply Qo h<;>intro _ h
  ·refine Qu <|k7 <|Qf λK5 k8=>Qk ?_;have⟨_,_,h⟩:=bs h;apply Qa 3712;refine Qf λP k9=>?_;have⟨_,_,_,_,h⟩:=bs2 h;apply Qa 31744;have⟨p3,h3,h⟩:=bs h;refine tJ1 (λi=>[(4,tv i)]) 12648833 (λi=>[own At 163 p3 i]) 1 P (λi=>?_) λQ=>?_
   ·refine k9 <|Qa 62 ?_;have⟨e6,h4,h⟩:=bs h;refine tJq (λ_ j=>[(4,tv j)]) 98945 (λR j=>[own At 163 R j]) 1 K5 (·=e6) (λR j d=>?_) λJ4=>?_
    ·subst d;refine k8 <|QJ 56 ?_;exact Q7 k6 j (sy h) 14
    refine Qk <|AT h4 (λt k=>[(9,ti t.1),(4,tv k)]) 266403969 (λt k=>[own At 163 t.2 k]) 1 i 62 ?_;intro t k o K7 h c A;refine Qf λ_ B=>Qa 1008 ?_;apply Qo h<;>intro _ h
    ·refine Qu <|B <|Qf λK8 C=>Qk ?_;have⟨_,_,_,_,_,_,h⟩:=bs3 h;apply Qa 1024000;have⟨p5,h5,h⟩:=bs h;refine tJ1 (λl=>[(4,tv l)]) 266420609 (λl=>[own At 163 p5 l]) 1 K8 (λl=>?_) λS=>?_
     ·refine C <|QJ 248 ?_;exact Q7 A l (sy h) 62
     replace h:=h5;apply Qo h<;>intro _ h
     ·have⟨t2,_,h⟩:=bs h;refine AB [vo 3 At 163 t2] [4] 1968 λm2=>?_;cases sj h;exact QN (S (m2 3)) 124
     have⟨_,_,t3,_,h⟩:=bs2 h;refine AB [vo 7 At 163 t3] [8] 31488 λm3=>?_;cases sj h;exact QN (S (m3 7)) 124
    refine QQ <|Q7 J4 k (c _ (sy h)) 104
   replace h:=h3;apply Qo h<;>intro _ h
   ·have⟨t4,_,h⟩:=bs h;refine AB [vo 2 At 163 t4] [3] 472 λm4=>?_;cases sj h;exact QN (Q (m4 2)) 60
   have⟨_,_,h⟩:=bs h;apply Qa 488;have⟨p6,h6,h⟩:=bs h;refine tJ1 (λm=>[(4,tv m)]) 12648833 (λm=>[own At 163 p6 m]) 1 P (λm=>?_) λT=>?_
   ·cases sj h;exact QN (Q m) 30
   replace h:=h6;apply Qo h<;>intro _ h
   ·have⟨t5,_,h⟩:=bs h;refine AB [vo 2 At 163 t5] [3] 472 λm5=>?_;cases sj h;exact QN (T (m5 2)) 60
   apply Qu;cases sj h;exact QN (T e) 21070345
  refine QQ <|Q7 J1 e (c _ (sy h)) 24
 refine Qk <|AT h0 (λu a=>[(5,ti u.1),(4,tv a)]) 65665 (λu a=>[own At 163 u.2 a]) 1 (.slice none 0 0) 14 ?_;intro u a o K9 h c D;refine Qf λ_ E=>Qa 480 ?_;apply Qo h<;>intro _ h
 ·refine Qu <|E <|Qf λF I=>Qk <|Qa 58 ?_;have⟨e7,h7,h⟩:=bs h;refine tJq (λ_ b=>[(4,tv b)]) 82305 (λU b=>[own At 163 U b]) 1 F (·=e7) (λU b d=>?_) λV=>?_
  ·subst d;refine I <|QJ 56 ?_;exact Q7 D b (sy h) 14
  refine Qk <|AC h7 (λK=>[(6,ti K)]) 2081153 (λK=>[]) 2 30 ?_;intro K o a0 h c L;refine Qf λ_ N=>Qa 248 ?_;apply Qo h<;>intro _ h
  ·refine Qu <|N <|Qf λ_ O=>Qk ?_;have⟨_,_,_,_,h⟩:=bs2 h;apply Qa 499712;apply Qo h<;>intro _ h
   ·have⟨t6,_,h⟩:=bs h;refine QU [vo 2 At 163 t6] [3] 408 λm6=>?_;refine QQ <|Q7 V (m6 2) (c _ (sy h)) 28
   refine Qu <|O <|QJ 232 ?_;exact Qx L (sy h) 30
  refine QQ <|Q7 V a (c _ (sy h)) 164617
 refine QQ <|Q7 J0 a (c _ (sy h)) 24
def NF (e:Q2) (a:Int) (c:Int):Option Q2:=(idx (e.x).Xa a).bind λC=>(idx e.w a).bind λU=>(idx U c).bind λr3=>(idx e.old a).bind λV=>(if decide (c<(V.length:Int)) then (idx e.old a).bind λW=>(idx W c).bind λO=>(neL O).bind λ_=>some O else some []).bind λB=>(Qr (λ(s0:Int×List (List Lz))=>if decide (s0.1<(C.Xb.length:Int)) then (idx C.Xb s0.1).bind λd=>(if !B.isEmpty then (sub B s0.1 (i64.wrap (s0.1+1))).bind λX=>some X else some []).bind λP=>(if d.Xi==3 then (JH (λx0=>Tw x0 d) P).bind λY=>(idx s0.2 a).bind λQ=>(idx Q c).bind λR=>(idx R s0.1).bind λr6=>(setAt R s0.1 Y).bind λf=>(setAt Q c f).bind λg=>(setAt s0.2 a g).bind λh=>some h else (if d.Xi==5 then (I8 (e.x).Xd (λx0=>Pg x0 d)).bind λZ=>(idx (e.x).Xd Z).bind λt8=>(Fv t8 d.Lo d.Hi).bind λt9=>(JH (λx0=>T9 x0 t9) P).bind λD=>(idx s0.2 a).bind λS=>(idx S c).bind λT=>(idx T s0.1).bind λr9=>(setAt T s0.1 D).bind λi=>(setAt S c i).bind λj=>(setAt s0.2 a j).bind λk=>some k else (if d.Xi==7 then (idx s0.2 a).bind λu=>(idx u c).bind λv=>(idx v s0.1).bind λa0=>(setAt v s0.1 d.Lo).bind λl=>(setAt u c l).bind λm=>(setAt s0.2 a m).bind λb=>(if !B.isEmpty then (idx B s0.1).bind λE=>(FQ E d.Lo d.Hi).bind λF=>(idx b a).bind λw=>(idx w c).bind λx=>(idx x s0.1).bind λa1=>(setAt x s0.1 F).bind λn=>(setAt w c n).bind λo=>(setAt b a o).bind λp=>some p else some b).bind λp2=>some p2 else (if d.Xi==8 then (CW C d.Up).bind λy=>(D3 e.x a y).bind λz=>(idx s0.2 z).bind λH=>(idx s0.2 a).bind λA=>(idx A c).bind λq=>(idx q y).bind λI=>(idx H I).bind λK=>(idx (e.x).Xa z).bind λL=>(CW L d.Of).bind λM=>(idx K M).bind λN=>(idx q s0.1).bind λa2=>(setAt q s0.1 N).bind λr=>(setAt A c r).bind λs=>(setAt s0.2 a s).bind λt=>some t else some s0.2).bind λp3=>some p3).bind λp4=>some p4).bind λp5=>some p5).bind λp6=>some (.inl (i64.wrap (s0.1+1),p6)) else some (.inr s0.2)) (0,e.w)).bind λp7=>some (Q2.mk e.x e.old p7)
instance gV:SpcS prog 28 (∀{E b x T U r},NF x T U=some r->FnOk prog 28 [tv E,ti T,ti U] [bxM x.x x.old (dh b) E,deep (dRow (dOwn rI 3) 22) 51 x.w b] (λ_=>[bxM r.x r.old (dh b) E,deep (dRow (dOwn rI 3) 22) 51 r.w b]) (λ_=>ttup [])):=.mk λ{E b x T U r} h=>by
 refine Fe func28 ntmps28 λM0 M w0 V=>?_
 refine Qf λ_ k0=>?_
 have⟨t0,_,r2,h0,r3,h1,h⟩:=bs3 h
 refine AB [vb 18 (Qq.cs zz1),vb 18 (Qq.cs t0)] [19,20] 16257024 (λm0=>?_) (λ_=>by refine' pr 3 ?_;refine' rx (.u [0] rfl rfl (FC Er z0)) 9 ?_;refine' rx (.u [1] rfl rfl (Ay ud29 BZ z1 z0 h0)) 0 ?_;refine' rx (.u [1] rfl rfl (A9 Bb z0 h0)) 1 ?_;refine' rx (.u [1] rfl rfl (.part (Q9 h0 .refl) (Ay ud51 B6 z1 z0 h1))) 0 ?_;refine' rx (.u [1] rfl rfl (.part (Q9 h0 .refl) (A9 Ak z0 h1))) 3 ?_;exact rnn)
 refine AA (λ_ _ H=>(((H.Xk [2,0,1] rfl).Xl 1 rfl).add 0 rfl (λ_ _ _ h=>h.2)).pick [0,2,4,5,6,7]) ?_
 apply k0
 refine Qa 254 ?_ (λ_=>by refine' rx (.p rfl (Ql (.nilsn (R:=rI)))) 0 ?_;exact rnn)
 refine Qf λK0 k1=>?_
 have⟨_,_,y,h2,h⟩:=bs2 h
 apply Qa 261120
 refine tJ0 [(8,tsn rI y)] 2162262529 [] 127 K0 ?_ λJ0=>?_
 ·apply k1
  apply Qa 1020
  have⟨e3,h3,h⟩:=bs h
  refine tJp (λ_=>[]) 8 (λp1=>[deep (dRow (dOwn rI 3) 22) 51 p1 b]) 130 (Ret prog f28 M0 [bxM x.x x.old (dh b) E,deep (dRow (dOwn rI 3) 22) 51 x.w b] w0 (λ_=>[bxM r.x r.old (dh b) E,deep (dRow (dOwn rI 3) 22) 51 r.w b]) (λ_=>ttup []) .normal) (·=e3) (λp1 he=>?_) λJ1=>?_
  ·subst he
   cases sj h
   exact Fo undef [0,1] V
  apply Qk
  refine AC h3 (λs0=>[(57,ti s0.1),(8,tsn rI y)]) 4365299499394 (λs0=>[deep (dRow (dOwn rI 3) 22) 51 s0.2 b]) 130 510 ?_
  intro s0 o K1 h ho k2
  apply Qa 1022
  refine Qf λ_ k3=>?_
  apply Qo h<;>intro _ h
  ·apply Qu
   apply k3
   refine Qf λF k4=>?_
   apply Qk
   have⟨t1,_,p2,h4,h⟩:=bs2 h
   refine QU [vb 3 (Qd.cs zz0),vb 3 (Qd.cs t1)] [4,6] 32688 λm1=>?_
   apply tFz 2
   apply Qa 4094
   refine Qf λK3 k5=>?_
   apply Qa 16380
   refine tJ0 [(11,tsl rI p2),(8,tsn rI y)] 9156948617167192577 [] 127 K3 ?_ λJ2=>?_
   ·apply k5
    apply Qa 16380
    apply Qk
    apply Qa 32764
    have⟨p3,h5,h⟩:=bs h
    refine tJ0 [(8,tsn rI y)] 4366641808391 [deep (dRow (dOwn rI 3) 22) 51 p3 b] 130 F ?_ λJ3=>?_
    ·apply k4
     apply QJ 1020
     exact Qx k2 (sy h) 9069186923922181
    replace h:=h5
    apply Qo h<;>intro _ h
    ·have⟨_,_,r4,h6,r5,h7,r6,h8,h⟩:=bs4 h
     have⟨W,d,X,e,z,f,h⟩:=bs3 h
     refine AB [v0 (deep (dRow (dOwn rI 3) 22) 51 z b)] [7] 1044480 (λm2=>?_) (λ_=>by refine' pr 5 ?_;refine' rx (.u [1] rfl rfl (.part (Q9 h6 (Q9 h7 .refl)) (CC ud22 tok3 z4 z3 h8))) 0 ?_;refine' rx (.e [] [1] [2] rfl rfl rfl rfl (.focus (Bz h6 f (Bz h7 e (.refl λ_=>Iff.rfl))) (Db tok3 z0 z1 d))) 0 ?_;exact rnn)
     cases sj h
     exact QN J3 510
    apply Qa 65524
    have⟨p4,h9,h⟩:=bs h
    refine tJ0 [(8,tsn rI y)] 4366641808391 [deep (dRow (dOwn rI 3) 22) 51 p4 b] 130 F ?_ λJ4=>?_
    ·cases sj h
     exact QN J3 510
    replace h:=h9
    apply Qo h<;>intro _ h
    ·have⟨_,_,_,_,t2,_,_,_,h⟩:=bs4 h
     refine Qa 4192512 ?_ (λ_=>by refine' pr 3 ?_;refine' rx (.u [0] rfl rfl (FC OL z0)) 4 ?_;exact rnn)
     refine QU [vb 13 ((rSl AE).cs ([]:(List Bool))),vb 13 ((rSl AE).cs t2)] [14,15] 134037504 (λm3=>?_) (λ_=>by refine' pr 3 ?_;refine' rx (.u [0] rfl rfl (FC OL z0)) 9 ?_;refine' rx (.m [] [2] rfl rfl rfl (Eb (R:=(rSl AE)) (a:=([]:(List Bool))) Ro zok128)) 1 ?_;exact rnn)
     apply tFz 2
     have⟨r7,I,r8,K,r9,Y,Z,g,h⟩:=bs4 h
     have⟨a0,i,A,j,h⟩:=bs2 h
     refine AB [v0 (deep (dRow (dOwn rI 3) 22) 51 A b)] [7] 261120 (λm4=>?_) (λ_=>by refine' pr 5 ?_;refine' rx (.u [1] rfl rfl (.part (Q9 I (Q9 K .refl)) (CC ud22 tok3 z4 z3 Y))) 0 ?_;refine' rx (.e [] [1] [2] rfl rfl rfl rfl (.focus (Bz I j (Bz K i (.refl λ_=>Iff.rfl))) (Db tok3 z0 z1 g))) 0 ?_;exact rnn)
     cases sj h
     exact QN J4 510
    apply Qa 65492
    have⟨p5,a1,h⟩:=bs h
    refine tJ0 [(8,tsn rI y)] 4366373356422 [deep (dRow (dOwn rI 3) 22) 51 p5 b] 130 F ?_ λJ5=>?_
    ·cases sj h
     exact QN J4 510
    replace h:=a1
    apply Qo h<;>intro _ h
    ·refine Qf λ_ k6=>?_
     have⟨b4,L,b5,N,b6,a2,a3,k,h⟩:=bs4 h
     have⟨a4,l,B,m,h⟩:=bs2 h
     refine AB [v0 (deep (dRow (dOwn rI 3) 22) 51 B b)] [6] 261888 (λm5=>?_) (λ_=>by refine' pr 4 ?_;refine' rx (.u [1] rfl rfl (.part (Q9 L (Q9 N .refl)) (CC ud22 tok3 z3 z2 a2))) 0 ?_;refine' rx (.e [] [1] [2] rfl rfl rfl rfl (.focus (Bz L m (Bz N l (.refl λ_=>Iff.rfl))) (Db tok3 z0 z1 k))) 0 ?_;exact rnn)
     apply k6
     apply Qa 8188
     have⟨p6,a5,h⟩:=bs h
     refine tJ0 [(8,tsn rI y)] 4366104904453 [deep (dRow (dOwn rI 3) 22) 51 p6 b] 130 F ?_ λJ6=>?_
     ·cases sj h
      exact QN J5 510
     replace h:=a5
     apply Qo h<;>intro _ h
     ·have⟨_,_,_,_,h⟩:=bs2 h
      have⟨b7,O,b8,P,b9,a6,a7,n,h⟩:=bs4 h
      have⟨a8,p,C,q,h⟩:=bs2 h
      refine AB [v0 (deep (dRow (dOwn rI 3) 22) 51 C b)] [13] 16711680 (λm6=>?_) (λ_=>by refine' pr 11 ?_;refine' rx (.u [1] rfl rfl (.part (Q9 O (Q9 P .refl)) (CC ud22 tok3 z10 z9 a6))) 0 ?_;refine' rx (.e [] [1] [2] rfl rfl rfl rfl (.focus (Bz O q (Bz P p (.refl λ_=>Iff.rfl))) (Db tok3 z0 z1 n))) 0 ?_;exact rnn)
      cases sj h
      exact QN J6 510
     apply Qu
     cases sj h
     exact QN J6 4080
    apply Qa 32740
    have⟨p7,a9,h⟩:=bs h
    refine tJ0 [(8,tsn rI y)] 4366104904453 [deep (dRow (dOwn rI 3) 22) 51 p7 b] 130 F ?_ λJ7=>?_
    ·cases sj h
     exact QN J5 510
    replace h:=a9
    apply Qo h<;>intro _ h
    ·have⟨_,_,_,_,h⟩:=bs2 h
     apply Qa 130976
     apply Qa 1048320
     have⟨c0,c,c1,s,c2,h24,c3,Q,h⟩:=bs4 h
     have⟨c4,t,h⟩:=bs h
     have⟨_,_,_,_,h⟩:=bs2 h
     have⟨c5,S,c6,b0,b1,u,b2,v,h⟩:=bs4 h
     have⟨D,w,h⟩:=bs h
     refine AB [v0 (deep (dRow (dOwn rI 3) 22) 51 D b)] [30] 4380866641984 (λm7=>?_) (λ_=>by refine' pr 7 ?_;refine' rx (.u [1] rfl rfl (Ay ud29 BZ z1 z0 c)) 0 ?_;refine' rx (.u [1] rfl rfl (A9 Bb z0 c)) 2 ?_;refine' rx (.u [1] rfl rfl (.part (Q9 s (Q9 h24 .refl)) (CC ud22 tok3 z1 z0 Q))) 0 ?_;refine' rx (.u [1] rfl rfl (.part (Q9 s (Q9 h24 .refl)) (FD tok3 z0 Q))) 0 ?_;refine' rx (.u [1] rfl rfl (.part (Q9 c .refl) (Ay ud51 B6 z4 z0 t))) 0 ?_;refine' rx (.u [1] rfl rfl (.part (Q9 c .refl) (A9 Ak z0 t))) 3 ?_;refine' rx (.u [0] rfl rfl (FC Er z0)) 7 ?_;refine' rx (.u [1] rfl rfl (.part (Q9 c (Q9 t .refl)) (CC ud22 tok3 z11 z0 S))) 0 ?_;refine' rx (.u [1] rfl rfl (.part (Q9 c (Q9 t .refl)) (FD tok3 z0 S))) 0 ?_;refine' rx (.u [1] rfl rfl (.part (Q9 s (Q9 h24 .refl)) (CC ud22 tok3 z27 z26 b0))) 0 ?_;refine' rx (.e [] [1] [2] rfl rfl rfl rfl (.focus (Bz s w (Bz h24 v (.refl λ_=>Iff.rfl))) (Db tok3 z0 z1 u))) 0 ?_;exact rnn)
     cases sj h
     exact QN J7 1020
    apply Qu
    cases sj h
    exact QN J7 4080
   replace h:=h4
   apply Qo h<;>intro _ h
   ·have⟨_,_,h⟩:=bs h
    apply QJ 261952
    cases sj h
    exact QN J2 4094
   apply Qu
   cases sj h
   exact QN J2 8188
  apply QQ
  exact Qx J1 (ho _ (sy h)) 256
 replace h:=h2
 apply Qo h<;>intro _ h
 ·have⟨_,_,_,_,_,b3,h⟩:=bs3 h
  refine QJ 256000 ?_ (λ_=>by refine' pr 10 ?_;refine' rx (.p rfl (Ql (.toN z0 b3))) 0 ?_;exact rnn)
  cases sj h
  exact QN J0 118
 apply Qu
 cases sj h
 exact QN J0 236
