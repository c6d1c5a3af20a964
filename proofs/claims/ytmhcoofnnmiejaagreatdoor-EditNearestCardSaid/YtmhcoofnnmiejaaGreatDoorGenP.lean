/- The walk. No condition. -/
import Derived.Test.YtmhcoofnnmiejaaGreatDoorGenG
import Derived.Test.YtmhcoofnnmiejaaGreatDoorGenI
import Derived.Test.YtmhcoofnnmiejaaGreatDoorGenJ
import Derived.Test.YtmhcoofnnmiejaaGreatDoorGenK
set_option linter.all false
open List Go.Proofs.Tryz Go.IntKind
namespace Go.Proofs.YtmhcoofnnmiejaaGreatDoor
noncomputable section
open Go.Sim
set_option maxRecDepth 100000
set_option maxHeartbeats 4000000
def Qhr (a:Qc):Option (Int):=(Qbe a.Version 0 1048576).bind λd=>(if ((((!d)||(decide ((a.Xa.length:Int)>6)))||(decide ((a.Xd.length:Int)>6)))||(decide ((a.Xc.length:Int)>16)))=true then (some (1:Int)) else (Qr (λ(s0:Int)=>((if (decide (s0<(a.Xa.length:Int)))=true then (idx a.Xa s0).bind λe=>(QgM e).bind λf=>(if (!f)=true then (some (.inr (.inr (1:Int)))) else (some (.inl (i64.wrap (s0+1))))) else (some (.inr (.inl ())))):Option ((Int)⊕((Unit)⊕(Int))))) (0:Int)).bind λg=>(match g with | .inl _=>(Qr (λ(b:Int)=>((if (decide (b<(a.Xd.length:Int)))=true then (idx a.Xd b).bind λh=>(QgN h).bind λi=>(if (!i)=true then (some (.inr (.inr (1:Int)))) else (some (.inl (i64.wrap (b+1))))) else (some (.inr (.inl ())))):Option ((Int)⊕((Unit)⊕(Int))))) (0:Int)).bind λj=>(match j with | .inl _=>(Qr (λ(c:Int)=>((if (decide (c<(a.Xc.length:Int)))=true then (idx a.Xc c).bind λk=>(QgO k).bind λl=>(if (!l)=true then (some (.inr (.inr (1:Int)))) else (some (.inl (i64.wrap (c+1))))) else (some (.inr (.inl ())))):Option ((Int)⊕((Unit)⊕(Int))))) (0:Int)).bind λm=>(match m with | .inl _=>(QgP a).bind λn=>(if (decide ((n.length:Int)>8192))=true then (some (4:Int)) else (some (0:Int))) | .inr o=>(some o)) | .inr p=>(some p)) | .inr q=>(some q)))
instance QEX:Spc1 prog 124 Qhr (λi=>[Qb.ty i]) ti:=.mk λ{i r} h=>by
 unfold Qhr at h
 refine Fe func124 ntmps124 λP M Q a=>?_
 refine Qa 2 ?_
 have⟨_,_,h⟩:=bs h
 refine tIfs h 12582912 (λ_ h=>?_) λ_ h=>?_
 ·refine Qa 2 ?_
  exact Qp h (·▸Qn a)
 refine Qf λq s=>?_
 refine Qa 10 ?_
 have⟨j,h0,h⟩:=bs h
 refine tJp (λ_=>[]) 3 (λ_=>[]) 0 q (.inl ·=j) (λR b=>?_) λt=>?_
 ·subst b
  simp only at h
  refine s ?_
  refine Qf λu v=>?_
  refine Qa 6 ?_
  have⟨k,w,h⟩:=bs h
  refine tJp (λ_=>[]) 3 (λ_=>[]) 0 u (.inl ·=k) (λS b=>?_) λx=>?_
  ·subst b
   simp only at h
   refine v ?_
   refine Qf λy z=>?_
   refine Qa 6 ?_
   have⟨l,A,h⟩:=bs h
   refine tJp (λ_=>[]) 3 (λ_=>[]) 0 y (.inl ·=l) (λT b=>?_) λB=>?_
   ·subst b
    simp only at h
    refine z ?_
    have⟨_,_,h⟩:=bs h
    refine tIfs h 16 (λ_ h=>?_) λ_ h=>?_
    ·refine Qa 2 ?_
     exact Qp h (·▸Qn a)
    refine Qa 2 ?_
    exact Qp h (·▸Qn a)
   refine tJr (λm=>[(2,ti m)]) 1 (λ_=>[]) 0 (.inr ·=l) (λm b=>?_) λC=>?_
   ·subst b
    simp only at h
    obtain rfl:=sj h
    exact Qn a
   refine Qk ?_
   refine Qaf A (λs0=>[(5,ti s0)]) 385 (λs0=>[]) 0 6 ?_
   clear h
   intro s0 o U h c D
   refine Qf λ_ E=>?_
   refine Qa 224 ?_
   refine Qo h (λ_ h=>?_) λ_ h=>?_
   ·refine Qu ?_
    refine E ?_
    refine Qf λ_ F=>?_
    refine Qk ?_
    have⟨_,_,_,_,h⟩:=bs2 h
    refine Qa 1664 ?_
    refine Qo h (λ_ h=>?_) λ_ h=>?_
    ·refine Qa 2 ?_
     refine QaA ?_
     exact Qx C (c _ (sj h).symm) 2
    refine Qu ?_
    refine F ?_
    refine QJ 40 ?_
    exact Qx D ((sj h).symm) 6
   refine QQ ?_
   exact Qx B (c _ (sj h).symm) 8
  refine tJr (λn=>[(2,ti n)]) 1 (λ_=>[]) 0 (.inr ·=k) (λn b=>?_) λH=>?_
  ·subst b
   simp only at h
   obtain rfl:=sj h
   exact Qn a
  refine Qk ?_
  refine Qaf w (λd=>[(4,ti d)]) 385 (λd=>[]) 0 6 ?_
  clear h
  intro d o V h c I
  refine Qf λ_ K=>?_
  refine Qa 224 ?_
  refine Qo h (λ_ h=>?_) λ_ h=>?_
  ·refine Qu ?_
   refine K ?_
   refine Qf λ_ L=>?_
   refine Qk ?_
   have⟨_,_,_,_,h⟩:=bs2 h
   refine Qa 1664 ?_
   refine Qo h (λ_ h=>?_) λ_ h=>?_
   ·refine Qa 2 ?_
    refine QaA ?_
    exact Qx H (c _ (sj h).symm) 2
   refine Qu ?_
   refine L ?_
   refine QJ 40 ?_
   exact Qx I ((sj h).symm) 6
  refine QQ ?_
  exact Qx x (c _ (sj h).symm) 8
 refine tJr (λp=>[(2,ti p)]) 1 (λ_=>[]) 0 (.inr ·=j) (λp b=>?_) λN=>?_
 ·subst b
  simp only at h
  obtain rfl:=sj h
  exact Qn a
 refine Qk ?_
 refine Qaf h0 (λe=>[(3,ti e)]) 385 (λe=>[]) 0 6 ?_
 clear h
 intro e o W h c O
 refine Qf λ_ f=>?_
 refine Qa 224 ?_
 refine Qo h (λ_ h=>?_) λ_ h=>?_
 ·refine Qu ?_
  refine f ?_
  refine Qf λ_ g=>?_
  refine Qk ?_
  have⟨_,_,_,_,h⟩:=bs2 h
  refine Qa 1664 ?_
  refine Qo h (λ_ h=>?_) λ_ h=>?_
  ·refine Qa 2 ?_
   refine QaA ?_
   exact Qx N (c _ (sj h).symm) 2
  refine Qu ?_
  refine g ?_
  refine QJ 40 ?_
  exact Qx O ((sj h).symm) 6
 refine QQ ?_
 exact Qx t (c _ (sj h).symm) 8
def Qhw (b:Qc):Option ((List QT)):=(Qhr b).bind λp=>(if (p !=0)=true then (QcL ([]:List QT) (-1) (-1) (-1) p).bind λq=>(some q) else (Qr (λ(s0:Int×List QT)=>(if (decide (s0.1<(b.Xd.length:Int)))=true then (Qr (λ(e:Int)=>(if (decide (e<s0.1))=true then (idx b.Xd e).bind λr=>(idx b.Xd s0.1).bind λs=>(if (r.Xj==s.Xj)=true then (QcL s0.2 (-1) s0.1 (-1) 7).bind λt=>(some (.inr t)) else (some (.inl (i64.wrap (e+1))))) else (some (.inr s0.2)))) (0:Int)).bind λu=>(some (.inl ((i64.wrap (s0.1+1)),u))) else (some (.inr s0.2)))) ((0:Int),([]:List QT))).bind λv=>(Qr (λ(a:Int×List QT)=>(if (decide (a.1<(b.Xa.length:Int)))=true then (idx b.Xa a.1).bind λf=>(idx b.Xa a.1).bind λw=>(QcH b w.Xj).bind λx=>((if (decide (x<a.1))=true then (QcL a.2 a.1 (-1) (-1) 7).bind λy=>(some y) else (Qhs f.Xb).bind λz=>((if (!z)=true then (QcL a.2 a.1 (-1) (-1) 11).bind λg=>(some g) else (some a.2))).bind λA=>(some A))).bind λB=>(Qr (λ(c:Int×List QT)=>(if (decide (c.1<(f.Xb.length:Int)))=true then (idx b.Xa a.1).bind λh=>(idx f.Xb c.1).bind λi=>(Qbi h i.Xj).bind λj=>((if (decide (j<c.1))=true then (QcL c.2 a.1 c.1 (-1) 7).bind λk=>(some k) else (Qhu b a.1 c.1).bind λl=>(QcL c.2 a.1 c.1 (-1) l).bind λm=>(some m))).bind λC=>(some (.inl ((i64.wrap (c.1+1)),C))) else (some (.inr c.2)))) ((0:Int),B)).bind λD=>(some (.inl ((i64.wrap (a.1+1)),D))) else (some (.inr a.2)))) ((0:Int),v)).bind λE=>(Qr (λ(d:Int×List QT)=>(if (decide (d.1<(b.Xc.length:Int)))=true then (Qhv b d.1).bind λn=>(QcL d.2 (-1) (-1) d.1 n).bind λo=>(some (.inl ((i64.wrap (d.1+1)),o))) else (some (.inr d.2)))) ((0:Int),E)).bind λF=>(some F))
instance QE4:Spc1 prog 94 Qhw (λn=>[Qb.ty n]) (tsl Qae):=.mk λ{n r} h=>by
 unfold Qhw at h
 refine Fe func94 ntmps94 λM0 M v f=>?_
 refine Qa 2 ?_
 have⟨_,_,h⟩:=bs h
 refine Qa 24 ?_
 refine tIfs h 28 (λ_ h=>?_) λ_ h=>?_
 ·refine Q1 (λ_ _ H=>H.nil (Qae) 190) ?_
  have⟨Z,_,h⟩:=bs h
  refine QU [v1 1 (λv0=>own Qae 190 Z v0)] [2] 12 λm0=>?_
  refine QaA ?_
  refine Qan (by intro _ _ H;exact (H.Xn 1 rfl).pick [0]) ?_
  obtain rfl:=sj h
  exact Qn f
 refine Qa 18 ?_
 refine Q1 (λ_ _ H=>H.nil (Qae) 190) ?_
 refine Qf λK0 k0=>?_
 refine Qa 14 ?_
 have⟨e3,h0,h⟩:=bs h
 have J0:∀w p,w=e3->To M v 122 [(4,tv p),(1,tptr (Qb.cs n))] [own Qae 190 w p] K0:=by
  intro w p d;subst d;refine k0 <|Qf λK1 k1=>Qa 14 ?_;have⟨e4,h1,h⟩:=bs h;have J1:∀x q,x=e4->To M v 122 [(4,tv q),(1,tptr (Qb.cs n))] [own Qae 190 x q] K1:=by
   intro x q d;subst d;refine k1 <|Qf λK2 k2=>Qa 14 ?_;have⟨e5,h2,h⟩:=bs h;have J2:∀y z,y=e5->To M v 122 [(4,tv z)] [own Qae 190 y z] K2:=by
    intro y z d;subst d;refine k2 <|Qa 14 ?_;refine QaA ?_;refine Qan (by intro _ _ H;exact (H.Xn 1 rfl).pick [0]) ?_;obtain rfl:=sj h;exact Qn f
   refine Qk <|QaU h2 (λs0 g=>[(10,ti s0.1),(4,tv g)]) 65665 (λs0 g=>[own Qae 190 s0.2 g]) 1 q 14 ?_;clear h;intro s0 g o K3 h c k3;refine Qf λ_ k4=>Qa 480 ?_;refine Qo h (λ_ h=>?_) λ_ h=>?_
   ·refine Qu <|k4 <|Qf λ_ k5=>Qk ?_;have⟨_,_,t1,_,h⟩:=bs2 h;refine QaG [v1 5 (λv0=>own Qae 190 t1 v0)] [6] 1728 λm1=>?_;refine k5 <|QJ 120 ?_;exact Q7 k3 (m1 5) ((sj h).symm) 26
   refine QQ <|Q7 J2 g (c _ (sj h).symm) 8
  refine Qk <|QaU h1 (λs e=>[(7,ti s.1),(4,tv e)]) 65665 (λs e=>[own Qae 190 s.2 e]) 1 p 14 ?_;clear h;intro s e o K4 h c k6;refine Qf λ_ k7=>Qa 480 ?_;refine Qo h (λ_ h=>?_) λ_ h=>?_
  ·refine Qu <|k7 <|Qf λK5 k8=>Qk ?_;have⟨_,_,h⟩:=bs h;refine Qa 3712 ?_;refine Qf λP k9=>?_;have⟨_,_,_,_,h⟩:=bs2 h;refine Qa 31744 ?_;have⟨p3,Q,h⟩:=bs h;refine tJ1 (λi=>[(4,tv i)]) 12648833 (λi=>[own Qae 190 p3 i]) 1 P (λi=>?_) λR=>?_
   ·refine k9 <|Qa 62 ?_;have⟨e6,h4,h⟩:=bs h;refine tJq (λ_ j=>[(4,tv j)]) 98945 (λS j=>[own Qae 190 S j]) 1 K5 (·=e6) (λS j d=>?_) λJ4=>?_
    ·subst d;refine k8 <|QJ 56 ?_;exact Q7 k6 j ((sj h).symm) 14
    refine Qk <|QaU h4 (λt k=>[(9,ti t.1),(4,tv k)]) 266403969 (λt k=>[own Qae 190 t.2 k]) 1 i 62 ?_;clear h;intro t k o K7 h c A;refine Qf λ_ B=>Qa 1008 ?_;refine Qo h (λ_ h=>?_) λ_ h=>?_
    ·refine Qu <|B <|Qf λK8 C=>Qk ?_;have⟨_,_,_,_,_,_,h⟩:=bs3 h;refine Qa 1024000 ?_;have⟨p5,T,h⟩:=bs h;refine tJ1 (λl=>[(4,tv l)]) 266420609 (λl=>[own Qae 190 p5 l]) 1 K8 (λl=>?_) λU=>?_
     ·refine C <|QJ 248 ?_;exact Q7 A l ((sj h).symm) 62
     replace h:=T;clear T;refine Qo h (λ_ h=>?_) λ_ h=>?_
     ·have⟨t2,_,h⟩:=bs h;refine QaG [v1 3 (λv0=>own Qae 190 t2 v0)] [4] 1968 λm2=>?_;obtain rfl:=sj h;exact QN (U (m2 3)) 124
     have⟨_,_,t3,_,h⟩:=bs2 h;refine QaG [v1 7 (λv0=>own Qae 190 t3 v0)] [8] 31488 λm3=>?_;obtain rfl:=sj h;exact QN (U (m3 7)) 124
    refine QQ <|Q7 J4 k (c _ (sj h).symm) 104
   replace h:=Q;clear Q;refine Qo h (λ_ h=>?_) λ_ h=>?_
   ·have⟨t4,_,h⟩:=bs h;refine QaG [v1 2 (λv0=>own Qae 190 t4 v0)] [3] 472 λm4=>?_;obtain rfl:=sj h;exact QN (R (m4 2)) 60
   have⟨_,_,h⟩:=bs h;refine Qa 488 ?_;have⟨p6,V,h⟩:=bs h;refine tJ1 (λm=>[(4,tv m)]) 12648833 (λm=>[own Qae 190 p6 m]) 1 P (λm=>?_) λW=>?_
   ·obtain rfl:=sj h;exact QN (R m) 30
   replace h:=V;clear V;refine Qo h (λ_ h=>?_) λ_ h=>?_
   ·have⟨t5,_,h⟩:=bs h;refine QaG [v1 2 (λv0=>own Qae 190 t5 v0)] [3] 472 λm5=>?_;obtain rfl:=sj h;exact QN (W (m5 2)) 60
   refine Qu ?_;obtain rfl:=sj h;exact QN (W e) 21070345
  refine QQ <|Q7 J1 e (c _ (sj h).symm) 24
 refine Qk <|QaU h0 (λu a=>[(5,ti u.1),(4,tv a)]) 65665 (λu a=>[own Qae 190 u.2 a]) 1 (.slice none 0 0) 14 ?_;clear h;intro u a o K9 h c D;refine Qf λ_ E=>Qa 480 ?_;refine Qo h (λ_ h=>?_) λ_ h=>?_
 ·refine Qu <|E <|Qf λF I=>Qk <|Qa 58 ?_;have⟨e7,h7,h⟩:=bs h;refine tJq (λ_ b=>[(4,tv b)]) 82305 (λX b=>[own Qae 190 X b]) 1 F (·=e7) (λX b d=>?_) λY=>?_
  ·subst d;refine I <|QJ 56 ?_;exact Q7 D b ((sj h).symm) 14
  refine Qk <|Qaf h7 (λK=>[(6,ti K)]) 2081153 (λK=>[]) 2 30 ?_;clear h;intro K o a0 h c L;refine Qf λ_ N=>Qa 248 ?_;refine Qo h (λ_ h=>?_) λ_ h=>?_
  ·refine Qu <|N <|Qf λ_ O=>Qk ?_;have⟨_,_,_,_,h⟩:=bs2 h;refine Qa 499712 ?_;refine Qo h (λ_ h=>?_) λ_ h=>?_
   ·have⟨t6,_,h⟩:=bs h;refine QU [v1 2 (λv0=>own Qae 190 t6 v0)] [3] 408 λm6=>?_;refine QQ <|Q7 Y (m6 2) (c _ (sj h).symm) 28
   refine Qu <|O <|QJ 232 ?_;exact Qx L ((sj h).symm) 30
  refine QQ <|Q7 Y a (c _ (sj h).symm) 164617
 refine QQ <|Q7 J0 a (c _ (sj h).symm) 24
def QfJ (f:Int) (g:(List Qi)):Option (Qa1×(List Int)×Int):=(QfI f g).bind λh=>(if (h !=0)=true then (some (zz5,([]:List Int),h)) else (Qgt f g).bind λc=>(QcO (Qw.mk c.n c.l c.flow c.arcs)).bind λa=>(if (!a.1.isEmpty)=true then (some (zz5,a.1,(14:Int))) else (Qr (λ(s0:Int×(List Qi)×(List Qg)×List Int)=>((Qda (Qw.mk s0.1 s0.2.1 s0.2.2.2 s0.2.2.1)).bind λb=>(if (b.2.1.isNone)=true then (some (.inr (([]:List Int),(0:Int),(Qa1.mk s0.2.2.2 b.1)))) else (Qdg (Qw.mk s0.1 s0.2.1 s0.2.2.2 s0.2.2.1) b.2.1 b.2.2 b.2.2 1000).bind λd=>(some (.inl ((d.2).n,(d.2).l,(d.2).arcs,(d.2).flow)))))) ((a.2).n,(a.2).l,(a.2).arcs,(a.2).flow)).bind λe=>(some (e.2.2,e.1,e.2.1))))
instance QFS:Spc2 prog 37 QfJ (λm n=>[ti m,tsl QE n]) (λr=>ttup [Qad.ty r.1,tsl rI r.2.1,ti r.2.2]):=.mk λ{m n r} h=>by
 unfold QfJ at h
 refine Fe func37 ntmps37 λE M F b=>?_
 refine QU [v1 0 (λv0=>box (Qad.cs zz5) v0)] [1] 50 λc=>?_
 refine Qf λ_ p=>?_
 have⟨_,_,h⟩:=bs h
 refine Qa 240 ?_
 refine Qa 124 ?_
 refine Qo h (λ_ h=>?_) λ_ h=>?_
 ·refine QU [v0 (box (Qad.cs zz5) (c 0))] [3] 152 λI=>?_
  exact Qp h (·▸Qn b)
 refine Qu ?_
 refine p ?_
 have⟨g,h0,h⟩:=bs h
 refine QU [v1 2 (λv0=>bxN g.n g.l (gh v0 1) g.arcs (gh v0 0)),v1 2 (λv0=>own rI 3 g.flow (gh v0 1))] [3,3] 144 (λa=>?_) (λ_=>by refine' pr 2 ?_;refine' rx (.m [] [1,2] rfl rfl rfl (QO Qyq (Qtb.ok h0) (.cons (.of z1)<|.cons (.of z0)<|.nil))) 0 ?_;refine' rx (.ud (f:=λv=>tv (gh v 0)) 2 rfl [] rfl rfl (Ql z0)) 0 ?_;exact rnn)
 refine Qf λ_ q=>?_
 have⟨i,s,h⟩:=bs h
 refine QU [v0 (bxN (i.2).n (i.2).l (gh (a 2) 1) (i.2).arcs (gh (a 2) 0)),v0 (own rI 3 (i.2).flow (gh (a 2) 1))] [2,2] 56 (λK=>?_) (λ_=>by refine' pr 1 ?_;refine' rx (.e [] [1,2] [3,4] rfl rfl rfl rfl (QO Qyr (Qm4.ok s) (.cons (.of z0)<|.nil))) 1 ?_;exact rnn)
 refine Qa 60 ?_
 refine Qo h (λ_ h=>?_) λ_ h=>?_
 ·refine QU [v0 (box (Qad.cs zz5) (c 0))] [3] 280 λL=>?_
  refine Q1 (λ_ _ H=>H.Xk [2] rfl) ?_
  exact Qp h (·▸Qn b)
 refine Qu ?_
 refine q ?_
 have⟨t,u,h⟩:=bs h
 refine tJr (λe=>[(5,tsl rI e.1),(6,ti e.2.1)]) 82049 (λe=>[box (Qad.cs e.2.2) (c 0)]) 1 (·=t) (λe w=>?_) λy=>?_
 ·subst w
  obtain rfl:=sj h
  exact Qn b
 refine Qk ?_
 refine Qaf u (λs0=>[]) 644 (λs0=>[box (Qad.cs zz5) (c 0),bxN s0.1 s0.2.1 (gh (a 2) 1) s0.2.2.1 (gh (a 2) 0),own rI 3 s0.2.2.2 (gh (a 2) 1)]) 16513 24 ?_
 clear h
 intro s0 o N h z A
 refine Qk ?_
 have⟨d,B,h⟩:=bs h
 refine QU [v1 1 (λv0=>own rI 3 d.1 (gh v0 0)),v1 1 (λv0=>omap Qv d.2.1 (gh v0 1))] [2,2] 4016 (λk=>?_) (λ_=>by refine' pr 1 ?_;refine' rx (.m [1,2] [3,4] rfl rfl rfl (Qb2 [bxN s0.1 s0.2.1 (gh (a 2) 1) s0.2.2.1 (gh (a 2) 0),own rI 3 s0.2.2.2 (gh (a 2) 1)] Qys (Qnw.ok B) (.cons (.boxP 2 z0 (.head _) (.tail _ (.head _)) rfl)<|.nil) (λ_=>(Qsk (QiK Qa8 (QiK Qa8 (QiK Qa8 Qsl))))) (λ_=>flatN2 (QkP (by intro x T h;simp at h;(first | (subst h;exact Qa8) | (rcases h with h | h | h<;>subst h<;>exact Qa8)))) (QoV Qrg)))) 0 ?_;refine' rx (.ud (f:=λv=>ttup [tv (gh v 0),tv (gh v 1),ti d.2.2]) 1 rfl [] rfl rfl (Qaa z0)) 0 ?_;refine' rx (.ud (f:=λv=>tv (gh v 0)) 1 rfl [] rfl rfl (Qas z0 rfl)) 0 ?_;refine' rx (.ud (f:=λv=>tv (gh v 1)) 1 rfl [] rfl rfl (Qas z1 rfl)) 1 ?_;refine' rx (.ud (f:=λv=>tv (gh v 0)) 1 rfl [] rfl rfl (Ql z2)) 0 ?_;refine' rx (.ud (f:=λv=>tv (gh v 1)) 1 rfl [] rfl rfl (Ql z2)) 1 ?_;exact rnn)
 refine Qf λ_ C=>?_
 refine Qa 1022 ?_ (λ_=>by refine' pr 1 ?_;refine' rx (.u [4] rfl rfl (Qxx Qlk z0)) 0 ?_;exact rnn)
 refine QgJ 1 (λl=>?_) λl=>?_
 ·replace h:=QhV l h
  refine Q1 (As'':=[box (Qbf.cs (Qw.mk s0.1 s0.2.1 s0.2.2.2 s0.2.2.1)) (gh (a 2) 0),box (Qad.cs zz5) (c 0),own rI 3 d.1 (gh (k 1) 0),omap Qv d.2.1 (gh (k 1) 1)]) (λ_ _ H=>((H.pick [0,1,2,3,4,5,6,7,8]).Xk [2,1,0,3,4] rfl).Xm 2 rfl) ?_
  refine Q1 (by intro _ _ H;exact ((H.Xk [2,0,1,3] rfl).Xn 4 rfl).pick [0,1,2,4,6,7,8,9]) ?_
  refine QU [v0 (box (Qad.cs (Qa1.mk s0.2.2.2 d.1)) (c 0))] [7] 79232 λO=>?_
  refine Q1 (λ_ _ H=>H.Xk [1,2] rfl) ?_
  refine QaA ?_
  refine Qan (λ_ _ H=>(H.pick [0,1,5]).Xk [1] rfl) ?_
  exact Qx y (z _ (sj h).symm) 14
 replace h:=QhW l h
 refine Qu ?_
 refine C ?_
 refine Q1 (As'':=[box (Qad.cs zz5) (c 0),bxN s0.1 s0.2.1 (gh (a 2) 1) s0.2.2.1 (gh (a 2) 0),own rI 3 s0.2.2.2 (gh (a 2) 1),own rI 3 d.1 (gh (k 1) 0)]) (λ_ _ H=>((H.Xk [4,0,1,2,3] rfl).shareM 5 rfl).pick [0,2,3,5,7,8,9]) ?_
 have⟨j,D,h⟩:=bs h
 refine QaG [v0 (bxN (j.2).n (j.2).l (gh (a 2) 1) (j.2).arcs (gh (a 2) 0)),v0 (own rI 3 (j.2).flow (gh (a 2) 1))] [5,5] 6912 (λP=>?_) (λ_=>by refine' pr 4 ?_;refine' rx (.e [] [1,2] [4,5] rfl rfl rfl rfl (QO Qs2 (Qk0.ok D) (.cons (.of z3)<|.cons (.of z2)<|.cons (.of z1)<|.cons (.of z0)<|.cons (.of .k)<|.nil))) 0 ?_;exact rnn)
 refine Qan (λ_ _ H=>(H.pick [2,3]).Xk [0,2,3] rfl) ?_
 exact Qx A ((sj h).symm) 6
def QdV (a:(List Int)) (b:Int) (d:Int) (g:Int):Option ((List Int)×Qa1×Int):=(if ((decide ((a.length:Int)>512))||(decide (b>62)))=true then (some (([]:List Int),zz5,(4:Int))) else (if (((decide (b<0))||(decide (d<0)))||(decide (d>g)))=true then (some (([]:List Int),zz5,(1:Int))) else (if ((decide ((a.length:Int)<(i64.wrap (b * (imin d 1000)))))||(decide ((a.length:Int)>(i64.wrap (b * (imin g (a.length:Int)))))))=true then (some (([]:List Int),zz5,(14:Int))) else (QbE a).bind λk=>(mk b (0:Int)).bind λv=>(Qr (λ(s0:Int×List Int×List Int×(List Int)×Int×Int)=>(if (decide (s0.1<(k.length:Int)))=true then (idx k s0.1).bind λw=>(Qcp (Qav.mk s0.2.2.2.1 s0.2.2.1 s0.2.2.2.2.1 s0.2.2.2.2.2) s0.1).bind λx=>(Qr (λ(c:Int×List Int×(List Int)×Int×Int)=>(if (decide (c.1<b))=true then (QeU c.1 (Qav.mk c.2.2.1 c.2.1 c.2.2.2.1 c.2.2.2.2) s0.1 w x).bind λe=>(if e.1=true then (rm (s0.2.1.length+[c.1].length)).bind λ_=>(some (.inr ((e.2).old,(e.2).lo,(e.2).hi,(e.2).used,(s0.2.1++[c.1])))) else (some (.inl ((i64.wrap (c.1+1)),(e.2).used,(e.2).old,(e.2).lo,(e.2).hi)))) else (some (.inr (c.2.2.1,c.2.2.2.1,c.2.2.2.2,c.2.1,s0.2.1))))) ((0:Int),s0.2.2.1,s0.2.2.2.1,s0.2.2.2.2.1,s0.2.2.2.2.2)).bind λj=>(some (.inl ((i64.wrap (s0.1+1)),j.2.2.2.2,j.2.2.2.1,j.1,j.2.1,j.2.2.1))) else (some (.inr (s0.2.1,s0.2.2.1,s0.2.2.2.1,s0.2.2.2.2.1,s0.2.2.2.2.2))))) ((0:Int),([]:List Int),v,k,d,(imin g (a.length:Int)))).bind λh=>(QbL (Qav.mk h.2.2.1 h.2.1 h.2.2.2.1 h.2.2.2.2) b).bind λl=>(QfJ (i64.wrap (b+2)) l).bind λt=>(if (t.2.2 !=0)=true then (some (([]:List Int),zz5,(14:Int))) else (mk (l.length:Int) (0:Int)).bind λy=>(setAt y (i64.wrap ((l.length:Int) - 1)) (a.length:Int)).bind λz=>(Qr (λ(f:Int×List Int)=>(if (decide (f.1<(h.1.length:Int)))=true then (idx h.1 f.1).bind λi=>(idx a f.1).bind λm=>((if (m !=i)=true then (idx f.2 (i64.wrap ((i64.wrap ((3:Int) * i))+1))).bind λn=>(setAt f.2 (i64.wrap ((i64.wrap ((3:Int) * i))+1)) (i64.wrap (n+1))).bind λo=>(some o) else (idx f.2 (i64.wrap ((3:Int) * i))).bind λp=>(setAt f.2 (i64.wrap ((3:Int) * i)) (i64.wrap (p+1))).bind λq=>(some q))).bind λu=>(idx u (i64.wrap ((i64.wrap ((3:Int) * i))+2))).bind λr=>(setAt u (i64.wrap ((i64.wrap ((3:Int) * i))+2)) (i64.wrap (r+1))).bind λs=>(some (.inl ((i64.wrap (f.1+1)),s))) else (some (.inr f.2)))) ((0:Int),z)).bind λA=>(some (h.1,(Qa1.mk A (t.1).Level),(0:Int)))))))
instance Qtc:Spc4 prog 14 QdV (λc n g i=>[tsl rI c,ti n,ti g,ti i]) (λr=>ttup [tsl rI r.1,Qad.ty r.2.1,ti r.2.2]):=.mk λ{c n g i r} h=>by
 unfold QdV at h
 refine Fe func14 ntmps14 λM0 M w0 j=>?_
 refine QU [v1 1 (λv0=>box (Qad.cs zz5) v0)] [2] 244 λd=>?_
 refine Qf λ_ V=>?_
 refine Qa 504 ?_
 refine Qk ?_
 refine Qa 16256 ?_
 refine Qo h (λ_ h=>?_) λ_ h=>?_
 ·refine QU [v0 (box (Qad.cs zz5) (d 1))] [3] 76 λm1=>?_
  exact Qp h (·▸Qn j)
 refine Qa 1036288 ?_
 refine Qo h (λ_ h=>?_) λ_ h=>?_
 ·refine QU [v0 (box (Qad.cs zz5) (d 1))] [3] 76 λm2=>?_
  exact Qp h (·▸Qn j)
 refine Qa 16318464 ?_
 refine Qo h (λ_ h=>?_) λ_ h=>?_
 ·refine QU [v0 (box (Qad.cs zz5) (d 1))] [3] 44 λm3=>?_
  exact Qp h (·▸Qn j)
 refine Qu ?_
 refine V ?_
 have⟨B,h0,N,_,h⟩:=bs2 h
 refine QU [v1 3 (λv0=>own rI 3 N v0),v2 3 10 (λv0 v1=>box ([tsl rI B,tvs v0,ti g,ti (imin i (c.length:Int))]) v1),v1 11 (λv0=>box [tvs (.pointer none)] v0),v2 10 11 (λv0 v1=>box [tvs v0] v1)] [4,11,12,13] 118800 (λb=>?_) (λb=>by refine' pr 1 ?_;refine' rx (.p rfl (QO QsU ((Qjm.ok h0).ro QuC) (.cons (.of z0)<|.nil))) 7 ?_;refine' rx (.ud (f:=λv=>tagg ([tsl rI B,tvs v,ti g,ti (imin i (c.length:Int))])) 3 rfl [1] rfl rfl (.say (A:=own rI 3 N (b 3)) (.head _) (λ_ _ h=>Qg6 h) λW=>OpJ.Xq (U:=[]) (λA hA=>by cases hA) (Qby underlying99 pl99 zv99 zc99 (.cons (R:=(rSl rI)) (u:=B) rfl z7 (leb rfl)<|.cons (R:=rVal) (u:=(b 3)) rfl (Fct.Xo z5 λ_ _ _ h=>⟨h,W⟩) (leb rfl)<|.cons (R:=rI) (u:=g) rfl z4 (leb rfl)<|.cons (R:=rI) (u:=(imin i (c.length:Int))) rfl z0 (leb rfl)<|.nil _)))) 0 ?_;refine' rx (.m [] [2] rfl rfl rfl (QlO (R:=(rAgg ([tsl rI B,tvs (b 3),ti g,ti (imin i (c.length:Int))]) (Qt Qbj (Qt Qb9 (Qt (QZ rfl) (Qt (QZ rfl) Qak)))))) (u:=()) z0)) 0 ?_;refine' rx (.m [] [3] rfl rfl rfl (QaL (R:=rVal) (a:=.pointer none) Qie zokP)) 0 ?_;refine' rx (.e [2] [3] [4] rfl rfl rfl rfl (Qra Qie z0 z1)) 0 ?_;exact rnn)
 refine Q1 (λ_ _ H=>(((H.Xk [3,0,1,2] rfl).Xl 1 rfl).add 0 rfl (λ_ _ _ h=>h.2)).pick [0,2,4,5,6]) ?_
 refine Qa 126 ?_
 refine Q1 (λ_ _ H=>H.nil (rI) 3) ?_
 refine Qf λX Y=>?_
 refine QF6 (Γ':=[(13,tv (.slice none 0 0)),(12,tptr (rVal.cs (b 10))),(68,tv (b 3)),(9,tv (d 1)),(0,tsl rI c),(1,ti n)]) ?_
 refine Qa 8176 ?_ (λ_=>by refine' rx (.p rfl (QcN Qie z1)) 5 ?_;exact rnn)
 have⟨Z,h2,h⟩:=bs h
 refine tJq (λ_ w=>[(13,tv w)]) 266470145 (λk w=>[own rI 3 k.1 w,box (Qad.cs zz5) (d 1),own rI 3 k.2.1 (b 3),box ([tsl rI k.2.2.1,tvs (b 3),ti k.2.2.2.1,ti k.2.2.2.2]) (b 10)]) 2113665 X (·=Z) (λk w y=>?_) λJ0=>?_
 ·subst y
  refine Y ?_
  have⟨t2,h3,h⟩:=bs h
  refine QU [v1 2 (λv0=>own QE 142 t2 v0)] [3] 952 (λm5=>?_) (λ_=>by refine' rx (.p rfl (QcN Qie z1)) 1 ?_;refine' rx (.m [3,2] [4] rfl rfl rfl (Qb2 [box ([tsl rI k.2.2.1,tvs (b 3),ti k.2.2.2.1,ti k.2.2.2.2]) (b 10),own rI 3 k.2.1 (b 3)] Qyj (Qlz.ok h3) (.cons (.boxP 1 z1 (.head _) (.tail _ (.head _)) rfl)<|.cons (.of z0)<|.nil) (λ_=>Qa8) (λ_=>QlR (QkP (by intro x T h;simp at h;rcases h with h | h | h | h | h<;>subst h<;>exact Qa8))))) 1 ?_;exact rnn)
  refine Q1 (λ_ _ H=>H.Xk [0,1,4] rfl) ?_
  refine Q1 (by intro _ _ H;exact ((H.Xk [2,0,1] rfl).Xn 1 rfl).pick [0,3,4,5,6]) ?_
  have⟨C,_,h⟩:=bs h
  refine QU [v1 8 (λv0=>box (Qad.cs zz5) v0),v1 8 (λv0=>box (Qad.cs C.1) v0)] [9,10] 64000 λO=>?_
  refine tIfs h 492 (λ_ h=>?_) λ_ h=>?_
  ·refine QU [v0 (box (Qad.cs zz5) (d 1))] [3] 396 λm7=>?_
   refine Q1 (λ_ _ H=>H.Xk [0,2] rfl) ?_
   exact Qp h (·▸Qn j)
  have⟨t4,_,h⟩:=bs h
  refine QU [v1 2 (λv0=>own rI 3 t4 v0),v1 2 (λv0=>box ([tvs v0,tsl rI (C.1).Level]) (O 8))] [3,5] 1992 λp=>?_
  have⟨t5,_,h⟩:=bs h
  refine QU [v0 (own rI 3 t5 (p 2))] [9] 30212 λm9=>?_
  refine Qf λK1 k2=>?_
  refine Qa 1022 ?_
  have⟨e4,h4,h⟩:=bs h
  refine tJp (λ_=>[]) 148487 (λD=>[box (Qad.cs zz5) (d 1),own rI 3 D (p 2)]) 2162818 K1 (·=e4) (λD y=>?_) λJ1=>?_
  ·subst y
   refine k2 ?_
   refine Q1 (As'':=[box (Qad.cs (Qa1.mk D (C.1).Level)) (O 8),own rI 3 k.1 w,box (Qad.cs zz5) (d 1)]) (λ_ _ H=>((H.pick [0,1,2]).Xk [3,2,0,1] rfl).Xm 0 rfl) ?_
   refine QU [v0 (box (Qad.cs (Qa1.mk D (C.1).Level)) (d 1))] [4] 218 λa0=>?_
   refine Q1 (λ_ _ H=>H.Xk [1,2] rfl) ?_
   refine QaA ?_
   refine Qan (by intro _ _ H;exact (H.Xn 1 rfl).pick [0,3,5]) ?_
   obtain rfl:=sj h
   exact Qn j
  refine Qk ?_
  refine Qaf h4 (λs0=>[(131,ti s0.1)]) 34105999746 (λs0=>[box (Qad.cs zz5) (d 1),own rI 3 s0.2 (p 2)]) 2162818 974 ?_
  clear h
  intro s0 o K2 h q k3
  refine Qa 510 ?_
  refine Qf λ_ k4=>?_
  refine Qo h (λ_ h=>?_) λ_ h=>?_
  ·refine Qu ?_
   refine k4 ?_
   refine Qf λ_ k5=>?_
   refine Qk ?_
   have⟨_,_,h⟩:=bs h
   refine Qa 16304 ?_
   refine Qf λK3 k6=>?_
   have⟨_,_,h⟩:=bs h
   refine Qa 65344 ?_
   have⟨p2,P,h⟩:=bs h
   refine tJ0 [] 16259 [box (Qad.cs zz5) (d 1),own rI 3 p2 (p 2)] 2162818 K3 ?_ λQ=>?_
   ·refine k6 ?_
    have⟨_,_,t6,_,h⟩:=bs2 h
    refine QaG [v0 (own rI 3 t6 (p 2))] [10] 260100 λa1=>?_
    refine k5 ?_
    refine QJ 1020 ?_
    exact Qx k3 ((sj h).symm) 70853022745607
   replace h:=P
   clear P
   refine Qo h (λ_ h=>?_) λ_ h=>?_
   ·have⟨_,_,t7,_,h⟩:=bs2 h
    refine QaG [v0 (own rI 3 t7 (p 2))] [10] 522244 λa2=>?_
    obtain rfl:=sj h
    exact QN Q 1020
   have⟨_,_,t8,_,h⟩:=bs2 h
   refine QaG [v0 (own rI 3 t8 (p 2))] [9] 261124 λa3=>?_
   obtain rfl:=sj h
   exact QN Q 1020
  refine QQ ?_
  exact Qx J1 (q _ (sj h).symm) 224
 refine Qk ?_
 refine QaU h2 (λe s=>[(81,ti e.1),(13,tv s)]) 558828397543810 (λe s=>[own rI 3 e.2.1 s,box (Qad.cs zz5) (d 1),own rI 3 e.2.2.1 (b 3),box ([tsl rI e.2.2.2.1,tvs (b 3),ti e.2.2.2.2.1,ti e.2.2.2.2.2]) (b 10)]) 2113665 (.slice none 0 0) 958 ?_
 clear h
 intro e s o K4 h q k7
 refine Qa 1022 ?_
 refine Qf λ_ k8=>?_
 refine Qo h (λ_ h=>?_) λ_ h=>?_
 ·refine Qu ?_
  refine k8 ?_
  refine Qf λK5 k9=>?_
  refine Qk ?_
  have⟨t9,_,h⟩:=bs h
  refine QU [v1 3 (λv0=>box (rI.cs (0:Int)) v0),v1 4 (λv0=>box (rI.cs (0:Int)) v0),v1 3 (λv0=>box (rI.cs e.1) v0),v1 4 (λv0=>box (rI.cs t9) v0)] [4,5,6,7] 32688 λa4=>?_
  refine Q1 (λ_ _ H=>(((((((H.Xk [4,0,1,2,3,5] rfl).Xl 0 rfl).add 0 rfl (λ_ _ _ h=>h.2)).pick [0,3,4,5,6,7,8,9,10,11]).Xk [4,0,1,2,3] rfl).Xl 1 rfl).add 0 rfl (λ_ _ _ h=>h.2)).pick [0,2,4,5,6,7,8,9,10,11]) ?_
  have⟨E,h6,h⟩:=bs h
  refine QU [v1 3 (λv0=>box (rI.cs (0:Int)) v0),v1 3 (λv0=>box (rI.cs E) v0)] [4,5] 32752 (λa5=>?_) (λ_=>by refine' rx (.p rfl (QcN Qie z6)) 1 ?_;refine' rx (.u [3,2] rfl rfl (Qb2 [box ([tsl rI e.2.2.2.1,tvs (b 3),ti e.2.2.2.2.1,ti e.2.2.2.2.2]) (b 10),own rI 3 e.2.2.1 (b 3)] QsV (Qjn.ok h6) (.cons (.boxP 1 z1 (.head _) (.tail _ (.head _)) rfl)<|.cons (.of z0)<|.nil) (λ_=>Qa8) (λ_=>Qib (x:=undef)))) 2 ?_;exact rnn)
  refine Q1 (λ_ _ H=>(((H.Xk [4,0,1,2,3] rfl).Xl 0 rfl).add 0 rfl (λ_ _ _ h=>h.2)).pick [0,3,4,5,6,7,8,9,10,11,12]) ?_
  refine Qa 16324 ?_
  refine Qa 4094 ?_
  have⟨e5,h7,h⟩:=bs h
  refine tJq (λ_ z=>[(13,tv z)]) 4366117470849 (λt z=>[box (Qad.cs zz5) (d 1),box ([tsl rI t.1,tvs (b 3),ti t.2.1,ti t.2.2.1]) (b 10),own rI 3 t.2.2.2.1 (b 3),own rI 3 t.2.2.2.2 z]) 2113665 K5 (·=e5) (λt z y=>?_) λS=>?_
  ·subst y
   refine k9 ?_
   refine QJ 1020 ?_
   refine Qan (λ_ _ H=>(H.pick [2,3,0,1,4,5,6,7]).Xk [3,0,2,1] rfl) ?_
   exact Q7 k7 z ((sj h).symm) 510
  refine Qk ?_
  refine Qaf h7 (λm=>[(91,ti m.1)]) 266403970 (λm=>[box (Qad.cs zz5) (d 1),own rI 3 m.2.1 (b 3),box ([tsl rI m.2.2.1,tvs (b 3),ti m.2.2.2.1,ti m.2.2.2.2]) (b 10)]) 2113666 4094 ?_
  clear h
  intro m o K6 h q F
  refine Qa 8190 ?_
  refine Qf λ_ I=>?_
  refine Qo h (λ_ h=>?_) λ_ h=>?_
  ·refine Qu ?_
   refine I ?_
   refine Qf λ_ K=>?_
   refine Qk ?_
   refine Qa 32756 ?_
   have⟨l,h8,h⟩:=bs h
   refine QU [v0 (box ([tsl rI (l.2).old,tvs (b 3),ti (l.2).lo,ti (l.2).hi]) (b 10)),v0 (own rI 3 (l.2).used (b 3))] [3,3] 65528 (λa6=>?_) (λ_=>by refine' pr 2 ?_;refine' rx (.e [] [3,2] [4,5] rfl rfl rfl rfl (Qdr Qyi (QqJ.ok h8) z1 (.cons (.of z0)<|.nil))) 0 ?_;exact rnn)
   refine Qo h (λ_ h=>?_) λ_ h=>?_
   ·have⟨_,_,h⟩:=bs h
    refine QU [v1 3 (λv0=>own rI 3 (e.2.1++[m.1]) v0)] [4] 260144 λL=>?_
    refine QQ ?_
    exact Q7 S (L 3) (q _ (sj h).symm) 1020
   refine Qu ?_
   refine K ?_
   refine QJ 32740 ?_
   refine Qan (λ_ _ H=>(H.pick [1,0,2,3,4,5,6,7,8,9,10]).Xk [0,1,3,2] rfl) ?_
   exact Qx F ((sj h).symm) 4094
  refine QQ ?_
  refine Qan (λ_ _ H=>(H.pick [7,4,5,6,8,9,10,11]).Xk [1,3,2,0] rfl) ?_
  exact Q7 S s (q _ (sj h).symm) 510
 refine QQ ?_
 exact Q7 J0 s (q _ (sj h).symm) 992
