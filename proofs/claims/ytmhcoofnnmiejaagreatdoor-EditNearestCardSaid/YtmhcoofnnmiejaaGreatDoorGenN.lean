/- The walk. No condition. -/
import Derived.Test.YtmhcoofnnmiejaaGreatDoorGenG
import Derived.Test.YtmhcoofnnmiejaaGreatDoorGenI
import Derived.Test.YtmhcoofnnmiejaaGreatDoorGenK
set_option linter.all false
open List Go.Proofs.Tryz Go.IntKind
namespace Go.Proofs.YtmhcoofnnmiejaaGreatDoor
noncomputable section
open Go.Sim
set_option maxRecDepth 100000
set_option maxHeartbeats 4000000
def Qf4 (b:Qc):Option (Str):=(Qa5 ([115,99,104,101,109,97]:Str) [(AnyV.int b.Version)]).bind λu=>(QbI ([]:Str) u).bind λv=>(Qr (λ(s0:Int×Str)=>(if (decide (s0.1<(b.Xa.length:Int)))=true then (idx b.Xa s0.1).bind λe=>(Qa5 ([107,105,110,100]:Str) [(AnyV.str e.Xj),(AnyV.int e.Lo),(AnyV.int e.Hi)]).bind λw=>(QbI s0.2 w).bind λx=>(Qr (λ(f:Int×Str)=>(if (decide (f.1<(e.Xb.length:Int)))=true then (idx e.Xb f.1).bind λy=>(QgU y).bind λz=>(QbI f.2 z).bind λA=>(some (.inl ((i64.wrap (f.1+1)),A))) else (some (.inr f.2)))) ((0:Int),x)).bind λB=>(some (.inl ((i64.wrap (s0.1+1)),B))) else (some (.inr s0.2)))) ((0:Int),v)).bind λC=>(Qr (λ(g:Int×Str)=>(if (decide (g.1<(b.Xd.length:Int)))=true then (idx b.Xd g.1).bind λc=>(Qr (λ(d:Int×List AnyV)=>(if (decide (d.1<(c.Xe.length:Int)))=true then (idx c.Xe d.1).bind λt=>(rm (d.2.length+[(AnyV.str t)].length)).bind λ_=>(some (.inl ((i64.wrap (d.1+1)),(d.2++[(AnyV.str t)])))) else (some (.inr d.2)))) ((0:Int),[(AnyV.str c.Xj),(AnyV.int (c.Xe.length:Int))])).bind λD=>(Qa5 ([108,105,102,101]:Str) D).bind λk=>(QbI g.2 k).bind λl=>(Qr (λ(h:Int×Str)=>(if (decide (h.1<(c.Xg.length:Int)))=true then (idx c.Xg h.1).bind λi=>(Qa5 ([109,111,118,101]:Str) [(AnyV.int i.a0),(AnyV.int i.a1)]).bind λm=>(QbI h.2 m).bind λn=>(some (.inl ((i64.wrap (h.1+1)),n))) else (some (.inr h.2)))) ((0:Int),l)).bind λE=>(some (.inl ((i64.wrap (g.1+1)),E))) else (some (.inr g.2)))) ((0:Int),C)).bind λF=>(Qr (λ(j:Int×Str)=>(if (decide (j.1<(b.Xc.length:Int)))=true then (idx b.Xc j.1).bind λa=>(Qem a.A).bind λo=>(Qem a.B).bind λp=>(Qa5 ([114,117,108,101]:Str) [(AnyV.str a.Xj),(AnyV.str a.Xi),(AnyV.str o),(AnyV.str p),(AnyV.int a.N)]).bind λq=>(QbI j.2 q).bind λr=>(some (.inl ((i64.wrap (j.1+1)),r))) else (some (.inr j.2)))) ((0:Int),F)).bind λH=>(QiB H).bind λs=>(some s)
instance QBk:SpcS prog 169 (∀{t r},Qf4 t=some r->FnOk prog 169 [Qb.ty t] [glo] (λ_=>[]) (λ_=>tv (.string (sB r)))):=.mk λ{t r} h=>by
 unfold Qf4 at h
 refine Fe func169 ntmps169 λM0 M w0 u=>?_
 refine Qa 2 ?_
 refine QU [v1 0 (λv0=>bld ([]:Str) v0 nilV)] [1] 6 (λa=>?_) (λ_=>by refine' rx (.m [] [1] rfl rfl rfl (Qq4 bInfo)) 0 ?_;exact rnn)
 have⟨_,_,t0,h0,h⟩:=bs2 h
 refine QU [v1 5 (λv0=>bld t0 (a 0) v0)] [6] 384 (λm1=>?_) (λ_=>by refine' pr 5 ?_;refine' rx (.e [] [1] [2] rfl rfl rfl rfl (QO Qh0 (Qcr h0) (.cons (.of z5)<|.cons (.of z0)<|.nil))) 0 ?_;exact rnn)
 refine Qf λK0 k0=>?_
 refine Qa 124 ?_
 have⟨e3,h1,h⟩:=bs h
 refine tJq (λ_ _=>[]) 773 (λp0 v=>[bld p0 (a 0) v]) 130 K0 (·=e3) (λp0 v b=>?_) λJ0=>?_
 ·subst b
  refine k0 ?_
  refine Qf λK1 k1=>?_
  refine Qa 124 ?_
  have⟨e4,h2,h⟩:=bs h
  refine tJq (λ_ _=>[]) 773 (λp1 w=>[bld p1 (a 0) w]) 130 K1 (·=e4) (λp1 w b=>?_) λJ1=>?_
  ·subst b
   refine k1 ?_
   refine Qf λK2 k2=>?_
   refine Qa 60 ?_
   have⟨e5,h3,h⟩:=bs h
   have J2:∀y y2,y=e5->To M w0 132 [(3,tv (a 0))] [glo,bld y (a 0) y2] K2:=by
    intro y y2 b;subst b;refine k2 ?_;have⟨_,h4,h⟩:=bs h;refine QU [] [] 4 (λm2=>?_) (λ_=>by refine' rx (.e [] [1] [] rfl rfl rfl rfl (QO Qvi (QpU h4) (.cons (.of z0)<|.nil))) 1 ?_;exact rnn);exact Qp h (·▸Qn u)
   refine Qk <|QaU h3 (λs0 j=>[(106,ti s0.1)]) 10502530 (λs0 j=>[bld s0.2 (a 0) j]) 130 w 30 ?_;clear h;intro s0 j o K3 h c k3;refine Qa 62 ?_;refine Qf λ_ k4=>Qo h (λ_ h=>?_) λ_ h=>?_
   ·refine Qu <|k4 <|Qf λ_ k5=>Qk ?_;have⟨t1,_,h⟩:=bs h;refine QU [v1 2 (λv0=>box (QV.cs zz3) v0),v1 2 (λv0=>box (QV.cs t1) v0)] [3,4] 488 λm3=>?_;refine Q1 (λ_ _ H=>(((H.Xk [2,0,1] rfl).Xl 0 rfl).add 0 rfl (λ_ _ _ h=>h.2)).pick [0,3,4,5,6]) ?_;have⟨_,_,_,_,_,_,t2,h5,h⟩:=bs4 h;refine QaG [v1 19 (λv0=>bld t2 (a 0) v0)] [20] 62914560 (λm4=>?_) (λ_=>by refine' pr 19 ?_;refine' rx (.e [] [1] [2] rfl rfl rfl rfl (QO Qh0 (Qcr h5) (.cons (.of z23)<|.cons (.of z0)<|.nil))) 0 ?_;exact rnn);refine k5 <|QJ 60 ?_;exact Q7 k3 (m4 19) ((sj h).symm) 16810757
   refine QQ <|Q7 J2 j (c _ (sj h).symm) 32
  refine Qk <|QaU h2 (λk l=>[(57,ti k.1)]) 1621115266 (λk l=>[bld k.2 (a 0) l]) 130 v 62 ?_;clear h;intro k l o K4 h c k6;refine Qa 126 ?_;refine Qf λ_ k7=>Qo h (λ_ h=>?_) λ_ h=>?_
  ·refine Qu <|k7 <|Qf λK5 k8=>Qk ?_;have⟨z,_,h⟩:=bs h;refine QU [v1 2 (λv0=>box (Qs.cs zz2) v0),v1 2 (λv0=>box (Qs.cs z) v0)] [3,4] 1000 λm5=>?_;refine Q1 (λ_ _ H=>(((H.Xk [2,0,1] rfl).Xl 0 rfl).add 0 rfl (λ_ _ _ h=>h.2)).pick [0,3,4,5,6,7]) ?_;refine QU [v1 7 (λv0=>own (rAny 3 9) 20 [(AnyV.str z.Xj),(AnyV.int (z.Xe.length:Int))] v0)] [8] 65280 λm6=>?_;refine Qf λK6 k9=>Qa 8188 ?_;have⟨e6,h6,h⟩:=bs h;refine tJq (λ_ f=>[(10,tv f)]) 2081665 (λA f=>[own (rAny 3 9) 20 A f]) 16770 K6 (·=e6) (λA f b=>?_) λJ3=>?_
   ·subst b;refine k9 ?_;have⟨_,h7,t4,h8,h⟩:=bs2 h;refine QU [v1 2 (λv0=>bld t4 (a 0) v0)] [3] 2034 (λm7=>?_) (λ_=>by refine' pr 1 ?_;refine' rx (.u [0,2] rfl rfl ((Qb2 [own (rAny 3 9) 20 A f] Qjs (QeN.ok h7) (.cons (.of .k)<|.cons (.own z0 (.head _))<|.nil) (λ_=>Qa8) (λ_=>Qib (x:=undef))).glo)) 0 ?_;refine' rx (.e [] [1] [3] rfl rfl rfl rfl (QO Qh0 (Qcr h8) (.cons (.of z7)<|.cons (.of z0)<|.nil))) 0 ?_;exact rnn);refine Qa 8060 ?_;have⟨e7,h9,h⟩:=bs h;refine tJq (λ_ _=>[]) 16263 (λp4 B=>[bld p4 (a 0) B]) 130 K5 (·=e7) (λp4 B b=>?_) λJ4=>?_
    ·subst b;refine k8 <|QJ 124 ?_;exact Q7 k6 B ((sj h).symm) 2701165317
    refine Qk <|Q1 (λ_ _ H=>(H.pick [0,1,2,5,6,7,8,9]).Xk [0,2] rfl) ?_;refine QaU h9 (λm n=>[(88,ti m.1)]) 34101805442 (λm n=>[bld m.2 (a 0) n]) 130 (m7 2) 510 ?_;clear h;intro m n o K7 h c C;refine Qa 1022 ?_;refine Qf λ_ D=>Qo h (λ_ h=>?_) λ_ h=>?_
    ·refine Qu <|D <|Qf λ_ E=>Qk ?_;have⟨t5,_,h⟩:=bs h;refine QU [v1 2 (λv0=>box (QaR.cs (Qar.mk (0:Int) (0:Int))) v0),v1 2 (λv0=>box (QaR.cs t5) v0)] [3,4] 8168 λm8=>?_;refine Q1 (λ_ _ H=>(((H.Xk [2,0,1] rfl).Xl 0 rfl).add 0 rfl (λ_ _ _ h=>h.2)).pick [0,3,4,5,6,7,8,9,10]) ?_;have⟨_,_,t6,F,h⟩:=bs2 h;refine QaG [v1 8 (λv0=>bld t6 (a 0) v0)] [9] 522240 (λm9=>?_) (λ_=>by refine' pr 8 ?_;refine' rx (.e [] [1] [2] rfl rfl rfl rfl (QO Qh0 (Qcr F) (.cons (.of z15)<|.cons (.of z0)<|.nil))) 0 ?_;exact rnn);refine E <|QJ 1020 ?_;exact Q7 C (m9 8) ((sj h).symm) 9069186923922181
    refine QQ <|Q7 J4 n (c _ (sj h).symm) 992
   refine Qk <|QaU h6 (λg i=>[(72,ti g.1),(10,tv i)]) 4365567934850 (λg i=>[own (rAny 3 9) 20 g.2 i]) 16770 (m6 7) 4078 ?_;clear h;intro g i o K8 h c I;refine Qa 4094 ?_;refine Qf λ_ K=>Qo h (λ_ h=>?_) λ_ h=>?_
   ·refine Qu <|K <|Qf λ_ L=>Qk ?_;have⟨t7,_,h⟩:=bs h;refine Qa 32744 ?_;have⟨_,_,h⟩:=bs h;refine QaG [v1 4 (λv0=>own (rAny 3 9) 20 (g.2++[(AnyV.str t7)]) v0)] [5] 130912 λN=>?_;refine L <|QJ 8188 ?_;exact Q7 I (N 4) ((sj h).symm) 204365540643739567369
   refine QQ <|Q7 J3 i (c _ (sj h).symm) 4064
  refine QQ <|Q7 J1 l (c _ (sj h).symm) 96
 refine Qk <|QaU h1 (λp q=>[(26,ti p.1)]) 1621115266 (λp q=>[bld p.2 (a 0) q]) 130 (m1 5) 62 ?_;clear h;intro p q o K9 h c O;refine Qa 126 ?_;refine Qf λ_ P=>Qo h (λ_ h=>?_) λ_ h=>?_
 ·refine Qu <|P <|Qf λQ R=>Qk ?_;have⟨t8,_,h⟩:=bs h;refine QU [v1 2 (λv0=>box (Qq.cs zz1) v0),v1 2 (λv0=>box (Qq.cs t8) v0)] [3,4] 1000 λa2=>?_;refine Q1 (λ_ _ H=>(((H.Xk [2,0,1] rfl).Xl 0 rfl).add 0 rfl (λ_ _ _ h=>h.2)).pick [0,3,4,5,6,7]) ?_;have⟨_,_,t9,S,h⟩:=bs2 h;refine QU [v1 11 (λv0=>bld t9 (a 0) v0)] [12] 516096 (λT=>?_) (λ_=>by refine' pr 11 ?_;refine' rx (.e [] [1] [2] rfl rfl rfl rfl (QO Qh0 (Qcr S) (.cons (.of z15)<|.cons (.of z0)<|.nil))) 0 ?_;exact rnn);refine Qa 2012 ?_;have⟨e8,U,h⟩:=bs h;refine tJq (λ_ _=>[]) 16261 (λp5 e=>[bld p5 (a 0) e]) 130 Q (·=e8) (λp5 e b=>?_) λJ5=>?_
  ·subst b;refine R <|QJ 124 ?_;exact Q7 O e ((sj h).symm) 2701165317
  refine Qk <|QaU U (λs d=>[(45,ti s.1)]) 34101805442 (λs d=>[bld s.2 (a 0) d]) 130 (T 11) 510 ?_;clear h;intro s d o a3 h c V;refine Qa 1022 ?_;refine Qf λ_ W=>Qo h (λ_ h=>?_) λ_ h=>?_
  ·refine Qu <|W <|Qf λ_ X=>Qk ?_;have⟨Y,_,h⟩:=bs h;refine QU [v1 2 (λv0=>box (Qd.cs zz0) v0),v1 2 (λv0=>box (Qd.cs Y) v0)] [3,4] 8168 λa4=>?_;refine Q1 (λ_ _ H=>(((H.Xk [2,0,1] rfl).Xl 0 rfl).add 0 rfl (λ_ _ _ h=>h.2)).pick [0,3,4,5,6,7,8,9,10]) ?_;have⟨_,_,Z,a0,h⟩:=bs2 h;refine QaG [v1 2 (λv0=>bld Z (a 0) v0)] [3] 8160 (λa1=>?_) (λ_=>by refine' pr 2 ?_;refine' rx (.e [] [1] [2] rfl rfl rfl rfl (QO Qh0 (Qcr a0) (.cons (.of z9)<|.cons (.of z0)<|.nil))) 0 ?_;exact rnn);refine X <|QJ 1020 ?_;exact Q7 V (a1 2) ((sj h).symm) 9069186923922181
  refine QQ <|Q7 J5 d (c _ (sj h).symm) 992
 refine QQ <|Q7 J0 q (c _ (sj h).symm) 96
def QgV (a:Qc):Option (Int):=(QbJ a.Version 0 1048576).bind λb=>(opt (((((!b)||(decide ((a.Xa.length:Int)>6)))||(decide ((a.Xd.length:Int)>6)))||(decide ((a.Xc.length:Int)>16)))==false) (QeV a.Xa (λx0=>Qf1 x0)) default).bind λc=>(opt ((((((!b)||(decide ((a.Xa.length:Int)>6)))||(decide ((a.Xd.length:Int)>6)))||(decide ((a.Xc.length:Int)>16)))||(!c))==false) (QeX a.Xd (λx0=>Qf2 x0)) default).bind λd=>(opt (((((((!b)||(decide ((a.Xa.length:Int)>6)))||(decide ((a.Xd.length:Int)>6)))||(decide ((a.Xc.length:Int)>16)))||(!c))||(!d))==false) (QeZ a.Xc (λx0=>Qf3 x0)) default).bind λe=>(if (((((((!b)||(decide ((a.Xa.length:Int)>6)))||(decide ((a.Xd.length:Int)>6)))||(decide ((a.Xc.length:Int)>16)))||(!c))||(!d))||(!e))=true then (some (1:Int)) else (Qf4 a).bind λf=>(if (decide ((f.length:Int)>8192))=true then (some (4:Int)) else (some (0:Int))))
instance QCz:SpcS prog 134 (∀{b r},QgV b=some r->FnOk prog 134 [Qb.ty b] [glo] (λ_=>[]) (λ_=>ti r)):=.mk λ{b r} h=>by
 unfold QgV at h
 refine Fe func134 ntmps134 λd M e a=>?_
 refine Qa 2 ?_
 refine Qf λ_ c=>?_
 refine Qk ?_
 have⟨_,_,_,_,_,_,_,_,h⟩:=bs4 h
 refine Qa 6597069766656 ?_
 refine Qo h (λ_ h=>?_) λ_ h=>?_
 ·refine Qa 2 ?_
  exact Qp h (·▸Qn a)
 have⟨_,_,h⟩:=bs h
 refine Qa 32 ?_
 refine Qo h (λ_ h=>?_) λ_ h=>?_
 ·refine Qa 2 ?_
  exact Qp h (·▸Qn a)
 refine Qu ?_
 refine c ?_
 refine Qa 2 ?_
 exact Qp h (·▸Qn a)
def QgW (a:Qc):Option ((List QI)):=(QgV a).bind λm=>(if (m !=0)=true then (some [(QI.mk (-1) (-1) (-1) m)]) else (Qr (λ(s0:Int×List QI)=>(if (decide (s0.1<(a.Xd.length:Int)))=true then (idx a.Xd s0.1).bind λn=>(sub a.Xd 0 s0.1).bind λo=>(Qbp o (λx0=>Qhi x0 n)).bind λp=>(QaS [(Qaq.mk p 7)]).bind λq=>(QcU (-1) s0.1 (-1) q s0.2).bind λr=>(some (.inl ((i64.wrap (s0.1+1)),r))) else (some (.inr s0.2)))) ((0:Int),([]:List QI))).bind λs=>(Qr (λ(b:Int×List QI)=>(if (decide (b.1<(a.Xa.length:Int)))=true then (idx a.Xa b.1).bind λg=>(QhC a b.1).bind λt=>(QcU b.1 (-1) (-1) t b.2).bind λu=>(Qr (λ(c:Int×List QI)=>(if (decide (c.1<(g.Xb.length:Int)))=true then (idx g.Xb c.1).bind λf=>(Qa4 g f.Xj).bind λh=>(QaS [(Qaq.mk (decide (h<c.1)) 7)]).bind λe=>((if ((Qcm f.Xi).isSome&&(e==0))=true then (Qn1 ((QcB.mk (Qcm f.Xi))).check (QaJ.mk a b.1 c.1 f)).bind λi=>(some i) else (some e))).bind λv=>(QcU b.1 c.1 (-1) v c.2).bind λj=>(some (.inl ((i64.wrap (c.1+1)),j))) else (some (.inr c.2)))) ((0:Int),u)).bind λw=>(some (.inl ((i64.wrap (b.1+1)),w))) else (some (.inr b.2)))) ((0:Int),s)).bind λx=>(Qr (λ(d:Int×List QI)=>(if (decide (d.1<(a.Xc.length:Int)))=true then (QhD a d.1).bind λk=>(QcU (-1) (-1) d.1 k d.2).bind λl=>(some (.inl ((i64.wrap (d.1+1)),l))) else (some (.inr d.2)))) ((0:Int),x)).bind λy=>(some y))
instance Qp3:SpcS prog 107 (∀{l r},QgW l=some r->FnOk prog 107 [Qb.ty l] [glo] (λ_=>[]) (λ_=>tsl Qai r)):=.mk λ{l r} h=>by
 unfold QgW at h
 refine Fe func107 ntmps107 λM0 M L d=>?_
 refine Qa 2 ?_
 refine Qf λ_ N=>?_
 have⟨_,_,h⟩:=bs h
 refine Qa 24 ?_
 refine Qa 28 ?_
 refine Qo h (λ_ h=>?_) λ_ h=>?_
 ·refine Qa 16 ?_
  exact Qp h (·▸Qn d)
 refine Qu ?_
 refine N ?_
 refine QU [v1 0 (λv0=>box (rVal.cs nilV) v0)] [1] 18 (λa=>?_) (λ_=>by refine' rx (.m [] [1] rfl rfl rfl (Qq2 QuN)) 0 ?_;exact rnn)
 refine Q1 (λ_ _ H=>H.nil (Qai) 207) ?_
 refine Qa 28 ?_
 refine Qf λO P=>?_
 refine Qa 252 ?_
 have⟨Q,h0,h⟩:=bs h
 refine tJq (λ_ _=>[]) 16261 (λD m=>[own Qai 207 D m,box (rVal.cs m) (a 0)]) 16769 O (·=Q) (λD m b=>?_) λS=>?_
 ·subst b
  refine P ?_
  refine Qf λT U=>?_
  refine Qa 252 ?_
  have⟨V,W,h⟩:=bs h
  refine tJq (λ_ _=>[]) 16261 (λE n=>[own Qai 207 E n,box (rVal.cs n) (a 0)]) 16769 T (·=V) (λE n b=>?_) λX=>?_
  ·subst b
   refine U ?_
   refine Qf λY Z=>?_
   refine Qa 248 ?_
   have⟨e5,h2,h⟩:=bs h
   have J2:∀t v,t=e5->To M L 119 [(4,tv (a 0))] [own Qai 207 t v,glo,box (rVal.cs v) (a 0)] Y:=by
    intro t v b;subst b;refine Z <|Qa 6 ?_;refine Q1 (λ_ _ H=>H.Xk [0,1] rfl) ?_;refine QaA ?_;refine Qan (by intro _ _ H;exact (H.Xn 1 rfl).pick [0]) ?_;obtain rfl:=sj h;exact Qn d
   refine Qk <|QaU h2 (λs0 e=>[(108,ti s0.1)]) 266403970 (λs0 e=>[own Qai 207 s0.2 e,box (rVal.cs e) (a 0)]) 16769 n 62 ?_;clear h;intro s0 e o K3 h c k4;refine Qa 126 ?_;refine Qf λ_ k5=>Qo h (λ_ h=>?_) λ_ h=>?_
   ·refine Qu <|k5 <|Qf λ_ k6=>Qk <|Qa 500 ?_;have⟨_,_,t0,h3,h⟩:=bs2 h;refine QaG [v1 5 (λv0=>box (rVal.cs v0) (a 0)),v1 5 (λv0=>own Qai 207 t0 v0)] [6,6] 7936 (λm1=>?_) (λ_=>by refine' pr 5 ?_;refine' rx (.e [] [2,0] [3,4] rfl rfl rfl rfl (Qdr Ql4 (QfM.ok h3) z4 (.cons (.of .k)<|.cons (.of .k)<|.cons (.of z3)<|.cons (.of z0)<|.nil))) 0 ?_;exact rnn);refine k6 <|QJ 124 ?_;refine Qan (λ_ _ H=>(H.pick [1,0,2,3,4]).Xk [2,0,1] rfl) ?_;exact Q7 k4 (m1 5) ((sj h).symm) 62
   refine QQ <|Q7 J2 e (c _ (sj h).symm) 32
  refine Qk <|QaU W (λf g=>[(50,ti f.1)]) 34101805442 (λf g=>[own Qai 207 f.2 g,box (rVal.cs g) (a 0)]) 16769 m 126 ?_;clear h;intro f g o K4 h c k7;refine Qa 254 ?_;refine Qf λ_ k8=>Qo h (λ_ h=>?_) λ_ h=>?_
  ·refine Qu <|k8 <|Qf λK5 k9=>Qk ?_;have⟨t1,_,h⟩:=bs h;refine QU [v1 3 (λv0=>box (Qq.cs zz1) v0),v1 3 (λv0=>box (Qq.cs t1) v0)] [4,6] 8112 λm2=>?_;refine Q1 (λ_ _ H=>(((H.Xk [3,0,1,2] rfl).Xl 0 rfl).add 0 rfl (λ_ _ _ h=>h.2)).pick [0,3,4,5,6,7,8,9]) ?_;have⟨_,_,t2,h4,h⟩:=bs2 h;refine QU [v1 5 (λv0=>box (rVal.cs v0) (a 0)),v1 5 (λv0=>own Qai 207 t2 v0)] [6,6] 32640 (λm3=>?_) (λ_=>by refine' pr 5 ?_;refine' rx (.e [] [2,0] [3,4] rfl rfl rfl rfl (Qdr Ql4 (QfM.ok h4) z4 (.cons (.of z3)<|.cons (.of .k)<|.cons (.of .k)<|.cons (.of z0)<|.nil))) 0 ?_;exact rnn);refine Qa 8188 ?_;have⟨e6,h5,h⟩:=bs h;refine tJq (λ_ _=>[]) 16263 (λF p=>[box (rVal.cs p) (a 0),own Qai 207 F p]) 16514 K5 (·=e6) (λF p b=>?_) λJ3=>?_
   ·subst b;refine k9 <|QJ 252 ?_;refine Qan (λ_ _ H=>(H.pick [1,2,0,3,4,5]).Xk [2,0,1] rfl) ?_;exact Q7 k7 p ((sj h).symm) 126
   refine Qk <|QaU h5 (λi j=>[(64,ti i.1)]) 34101805442 (λi j=>[box (rVal.cs j) (a 0),own Qai 207 i.2 j]) 16514 (m3 5) 4094 ?_;clear h;intro i j o K6 h c w;refine Qa 8190 ?_;refine Qf λ_ x=>Qo h (λ_ h=>?_) λ_ h=>?_
   ·refine Qu <|x <|Qf λ_ y=>Qk ?_;have⟨q,_,h⟩:=bs h;refine QU [v1 3 (λv0=>box (Qd.cs zz0) v0),v1 3 (λv0=>box (Qd.cs q) v0)] [4,6] 262064 λm4=>?_;refine Q1 (λ_ _ H=>(((H.Xk [3,0,1,2] rfl).Xl 0 rfl).add 0 rfl (λ_ _ _ h=>h.2)).pick [0,3,4,5,6,7,8,9,10,11,12,13,14]) ?_;have⟨_,_,_,_,h⟩:=bs2 h;refine Qa 16776192 ?_;refine Qf λK7 z=>?_;refine QU [v1 7 (λv0=>box (Qde.cs (QcB.mk none)) v0),v1 7 (λv0=>box (Qde.cs (QcB.mk (Qcm q.Xi))) v0)] [8,9] 16776960 (λm5=>?_) (λ_=>by refine' rx (.u [0] rfl rfl (QAo (R:=rMapC QjJ) (u:=()) QAC tokM0 rfl)) 2 ?_;refine' rx (.p rfl (QyS z2 z0)) 6 ?_;exact rnn);refine Q1 (λ_ _ H=>(((H.Xk [3,0,1,2] rfl).Xl 0 rfl).add 0 rfl (λ_ _ _ h=>h.2)).pick [0,3,4,5,6,7,8,9,10,11,12,13,14,15,16,17]) ?_;refine Qa 4194144 ?_;have⟨p4,I,h⟩:=bs h;refine tJ0 [(13,ti p4)] 2081537 [] 127 K7 ?_ λK=>?_
    ·refine z ?_;have⟨t4,h7,h⟩:=bs h;refine QaG [v1 4 (λv0=>box (rVal.cs v0) (a 0)),v1 4 (λv0=>own Qai 207 t4 v0)] [5,5] 524032 (λm6=>?_) (λ_=>by refine' pr 4 ?_;refine' rx (.e [] [1,2] [3,4] rfl rfl rfl rfl (Qdr Ql4 (QfM.ok h7) z3 (.cons (.of z2)<|.cons (.of z1)<|.cons (.of .k)<|.cons (.of z0)<|.nil))) 0 ?_;exact rnn);refine y <|QJ 8188 ?_;exact Q7 w (m6 4) ((sj h).symm) 26158789202399750816517
    replace h:=I;clear I;refine Qo h (λ_ h=>?_) λ_ h=>?_
    ·have⟨_,h8,h⟩:=bs h;refine QJ 33546752 ?_ (λ_=>by refine' pr 1 ?_;refine' rx (.p rfl (QM (u:=((QcB.mk (Qcm q.Xi))).check) QAH z0 rfl)) 5 ?_;refine' rx (.p rfl (QAq (u:=(QaJ.mk l f.1 i.1 q)) z5 (.cons (.of z0)<|.nil) h8)) 1 ?_;exact rnn);obtain rfl:=sj h;exact QN K 16382
    refine Qu ?_;obtain rfl:=sj h;exact QN K 131048
   refine QQ <|Q7 J3 j (c _ (sj h).symm) 8064
  refine QQ <|Q7 X g (c _ (sj h).symm) 224
 refine Qk <|QaU h0 (λs k=>[(28,ti s.1)]) 34101805442 (λs k=>[own Qai 207 s.2 k,box (rVal.cs k) (a 0)]) 16769 nilV 126 ?_;clear h;intro s k o K8 h c A;refine Qa 254 ?_;refine Qf λ_ B=>Qo h (λ_ h=>?_) λ_ h=>?_
 ·refine Qu <|B <|Qf λ_ C=>Qk ?_;have⟨t5,_,h⟩:=bs h;refine QU [v1 3 (λv0=>box (Qs.cs zz2) v0),v1 3 (λv0=>box (Qs.cs t5) v0)] [4,6] 8112 λm7=>?_;refine Q1 (λ_ _ H=>(((H.Xk [3,0,1,2] rfl).Xl 0 rfl).add 0 rfl (λ_ _ _ h=>h.2)).pick [0,3,4,5,6,7,8,9]) ?_;have⟨_,_,_,_,h⟩:=bs2 h;refine Qa 65152 ?_;have⟨_,_,t6,h9,h⟩:=bs2 h;refine QaG [v1 6 (λv0=>box (rVal.cs v0) (a 0)),v1 6 (λv0=>own Qai 207 t6 v0)] [7,7] 64512 (λm8=>?_) (λ_=>by refine' pr 6 ?_;refine' rx (.e [] [2,0] [3,4] rfl rfl rfl rfl (Qdr Ql4 (QfM.ok h9) z5 (.cons (.of .k)<|.cons (.of z4)<|.cons (.of .k)<|.cons (.of z0)<|.nil))) 0 ?_;exact rnn);refine C <|QJ 252 ?_;refine Qan (λ_ _ H=>(H.pick [1,2,0,3,4,5]).Xk [2,0,1] rfl) ?_;exact Q7 A (m8 6) ((sj h).symm) 126
 refine QQ <|Q7 S k (c _ (sj h).symm) 224
def Qe9 (b:Q2) (g:Int):Option (Q2):=(idx (b.x).Xa g).bind λj=>(Qr (λ(s0:Int×List (List (List Int)))=>(if (decide (s0.1<(j.Xb.length:Int)))=true then ((idx j.Xb s0.1).bind λo=>(if (o.Xi !=6)=true then (some s0.2) else (QeP b.x g s0.1).bind λc=>(idx (b.x).Xa c.1).bind λp=>(idx (b.x).Xa c.1).bind λq=>(idx q.Xb c.2).bind λr=>(Qa4 p r.Up).bind λs=>(idx s0.2 c.1).bind λt=>(Qr (λ(a:Int×List (List (List Int)))=>(if (decide (a.1<(t.length:Int)))=true then (idx a.2 c.1).bind λu=>(idx u a.1).bind λz=>(idx a.2 g).bind λk=>(idx a.2 c.1).bind λv=>(idx v a.1).bind λl=>(idx l s).bind λm=>(idx k m).bind λn=>(idx n s0.1).bind λh=>(idx l c.2).bind λi=>(setAt n s0.1 (i64.wrap (h+i))).bind λd=>(setAt k m d).bind λe=>(setAt a.2 g e).bind λf=>(some (.inl ((i64.wrap (a.1+1)),f))) else (some (.inr a.2)))) ((0:Int),s0.2)).bind λw=>(some w))).bind λx=>(some (.inl ((i64.wrap (s0.1+1)),x))) else (some (.inr s0.2)))) ((0:Int),b.w)).bind λy=>(some (Q2.mk b.x b.old y))
instance QnI:SpcS prog 22 (∀{j a c s r},Qe9 c s=some r->FnOk prog 22 [tv j,ti s] [bxM c.x c.old (dh a) j,deep (dRow (dOwn rI 3) 22) 40 c.w a] (λ_=>[bxM r.x r.old (dh a) j,deep (dRow (dOwn rI 3) 22) 40 r.w a]) (λ_=>ttup [])):=.mk λ{j a c s r} h=>by
 unfold Qe9 at h
 refine Fe func22 ntmps22 λI M K t=>?_
 have⟨_,_,h⟩:=bs h
 refine Qa 15872 ?_ (λ_=>by refine' pr 3 ?_;refine' rx (.u [0] rfl rfl (QeB Qcv z0)) 7 ?_;exact rnn)
 have⟨L,h0,h⟩:=bs h
 refine tJp (λ_=>[]) 5 (λx=>[deep (dRow (dOwn rI 3) 22) 40 x a]) 130 (Ret prog f22 I [bxM c.x c.old (dh a) j,deep (dRow (dOwn rI 3) 22) 40 c.w a] K (λ_=>[bxM r.x r.old (dh a) j,deep (dRow (dOwn rI 3) 22) 40 r.w a]) (λ_=>ttup []) .normal) (·=L) (λx u=>?_) λN=>?_
 ·subst u
  obtain rfl:=sj h
  exact Qll undef [0,1] t
 refine Qk ?_
 refine Qaf h0 (λs0=>[(21,ti s0.1)]) 1621115266 (λs0=>[deep (dRow (dOwn rI 3) 22) 40 s0.2 a]) 130 62 ?_
 clear h
 intro s0 o K0 h v O
 refine Qa 126 ?_
 refine Qf λ_ P=>?_
 refine Qo h (λ_ h=>?_) λ_ h=>?_
 ·refine Qu ?_
  refine P ?_
  refine Qf λy Q=>?_
  have⟨R,z,h⟩:=bs h
  refine tJ0 [] 16259 [deep (dRow (dOwn rI 3) 22) 40 R a] 130 y ?_ λA=>?_
  ·refine Q ?_
   refine QJ 124 ?_
   exact Qx O ((sj h).symm) 2701165317
  replace h:=z
  clear z
  refine Qk ?_
  have⟨S,_,h⟩:=bs h
  refine QU [v1 3 (λv0=>box (Qd.cs zz0) v0),v1 3 (λv0=>box (Qd.cs S) v0)] [4,6] 4016 λm0=>?_
  refine Q1 (λ_ _ H=>(((H.Xk [2,0,1] rfl).Xl 0 rfl).add 0 rfl (λ_ _ _ h=>h.2)).pick [0,3,4,5,6,7,8]) ?_
  refine tIfs h 2024 (λ_ h=>?_) λ_ h=>?_
  ·refine QQ ?_
   obtain rfl:=sj h
   exact QN A 248
  have⟨_,_,h⟩:=bs h
  refine Qa 1038336 ?_
  have⟨_,T,h⟩:=bs h
  replace h:=bk T h
  have⟨_,_,_,_,h⟩:=bs2 h
  refine Qa 4286578688 ?_ (λ_=>by refine' pr 3 ?_;refine' rx (.u [0] rfl rfl (QeB Qcv z0)) 7 ?_;refine' rx (.u [0] rfl rfl (QeB Qcv z0)) 11 ?_;exact rnn)
  refine Qf λ_ U=>?_
  have⟨r2,w,h⟩:=bs h
  refine QJ 522128 ?_ (λ_=>by refine' pr 5 ?_;refine' rx (.u [1] rfl rfl (QaV ud29 QbR z1 z0 w)) 0 ?_;refine' rx (.u [1] rfl rfl (Qa7 Qc0 z0 w)) 0 ?_;refine' rx (.u [1] rfl rfl (.part (Q9 w .refl) (Qg9 ud40 z0))) 1 ?_;exact rnn)
  refine U ?_
  have⟨V,W,h⟩:=bs h
  refine tJp (λ_=>[]) 16265 (λB=>[deep (dRow (dOwn rI 3) 22) 40 B a]) 130 y (·=V) (λB u=>?_) λX=>?_
  ·subst u
   obtain rfl:=sj h
   exact QN A 62
  refine Qk ?_
  refine Qaf W (λn=>[(69,ti n.1)]) 34103902723 (λn=>[deep (dRow (dOwn rI 3) 22) 40 n.2 a]) 130 8188 ?_
  clear h
  intro n o K2 h v Y
  refine Qa 8190 ?_
  refine Qf λ_ Z=>?_
  refine Qo h (λ_ h=>?_) λ_ h=>?_
  ·refine Qu ?_
   refine Z ?_
   refine Qf λ_ k6=>?_
   refine Qk ?_
   refine Qf λ_ k7=>?_
   have⟨r3,C,r4,D,h⟩:=bs2 h
   refine QJ 65512 ?_ (λ_=>by refine' rx (.u [1] rfl rfl (.part (Q9 C .refl) (QaV ud40 Qci z1 z3 D))) 0 ?_;refine' rx (.u [1] rfl rfl (.part (Q9 C .refl) (Qa7 Qbh z0 D))) 1 ?_;exact rnn)
   refine k7 ?_
   have⟨r5,d,r6,p,r7,q,r8,k,h⟩:=bs4 h
   have⟨r9,b,a0,e,a1,l,E,f,h⟩:=bs4 h
   have⟨F,g,m,i,h⟩:=bs2 h
   refine QaG [v0 (deep (dRow (dOwn rI 3) 22) 40 m a)] [23] 34342961168 (λm1=>?_) (λ_=>by refine' pr 5 ?_;refine' rx (.u [1] rfl rfl (QaV ud29 QbR z1 z0 d)) 0 ?_;refine' rx (.u [1] rfl rfl (Qa7 Qc0 z0 d)) 2 ?_;refine' rx (.u [1] rfl rfl (.part (Q9 p (Q9 q .refl)) (Qaz ud22 tok3 z1 z0 k))) 0 ?_;refine' rx (.u [1] rfl rfl (.part (Q9 p (Q9 q .refl)) (QcA tok3 z0 k))) 0 ?_;refine' rx (.u [1] rfl rfl (.part (Q9 d .refl) (QaV ud40 Qci z4 z0 b))) 0 ?_;refine' rx (.u [1] rfl rfl (.part (Q9 d .refl) (Qa7 Qbh z0 b))) 1 ?_;refine' rx (.u [1] rfl rfl (.part (Q9 d (Q9 b .refl)) (Qaz ud22 tok3 z1 z0 e))) 0 ?_;refine' rx (.u [1] rfl rfl (.part (Q9 d (Q9 b .refl)) (QcA tok3 z0 e))) 2 ?_;refine' rx (.u [1] rfl rfl (.part (Q9 p (Q9 q .refl)) (Qaz ud22 tok3 z1 z0 l))) 0 ?_;refine' rx (.u [1] rfl rfl (.part (Q9 p (Q9 q .refl)) (QcA tok3 z0 l))) 1 ?_;refine' rx (.u [1] rfl rfl (.part (Q9 d (Q9 b .refl)) (Qaz ud22 tok3 z8 z7 e))) 0 ?_;refine' rx (.e [] [1] [2] rfl rfl rfl rfl (.focus (QbC d i (QbC b g (.refl λ_=>Iff.rfl))) (QbP tok3 z0 z1 f))) 0 ?_;exact rnn)
   refine k6 ?_
   refine QJ 16380 ?_
   exact Qx Y ((sj h).symm) 28538564437861619237895
  refine QQ ?_
  exact Qx X (v _ (sj h).symm) 7936
 refine QQ ?_
 exact Qx N (v _ (sj h).symm) 32
