/- The walk. No condition. -/
import Derived.Test.YtohojolgolinoaaGreatDoorGenI
import Derived.Test.YtohojolgolinoaaGreatDoorGenJ
import Derived.Test.YtohojolgolinoaaGreatDoorGenL
set_option linter.all false
open List Go.Proofs.Tryz Go.IntKind
namespace Go.Proofs.YtohojolgolinoaaGreatDoor
noncomputable section
open Go.Sim
set_option maxRecDepth 100000
set_option maxHeartbeats 4000000
def NA (e:Cv) (g:Int) (x:Int) (h:Int) (a:(Mp Bool)):Option (Int×(Mp Bool)):=(idx (e.x).Xa g).bind λy=>(idx e.w g).bind λz=>(idx z x).bind λi=>(idx y.Xb h).bind λb=>(idx i h).bind λc=>if b.Xi==0 then if decide (c<b.Lo) then some (5,a) else (mput a c true).bind λj=>(Dh ((AY a c).getD false) 7).bind λA=>some (A,j) else (if b.Xi==2 then some (b.Xi==2) else some (b.Xi==7)).bind λB=>if B then (JE c b).bind λC=>some (C,a) else if b.Xi==3 then (opt (((decide (c<0))||(decide (c>=(b.Words.length:Int))))==false) (idx b.Xf (imax 0 (imin c (i64.wrap ((b.Words.length:Int) - 1))))) default).bind λD=>(Dh (((decide (c<0))||(decide (c>=(b.Words.length:Int))))||(D==0)) 5).bind λE=>some (E,a) else if b.Xi==4 then (if b.Of !=([]:Str) then (CW y b.Of).bind λF=>(idx i F).bind λk=>some (i64.wrap (c - k)) else some c).bind λH=>(JE H b).bind λl=>some (l,a) else if b.Xi==5 then (Fv ((Ax e.lives b.Of).getD zz2) b.Lo b.Hi).bind λd=>(opt (((decide (c<0))||(decide (c>=(d.length:Int))))==false) (Ml d) default).bind λm=>(opt (((decide (c<0))||(decide (c>=(d.length:Int))))==false) (Mc m c) default).bind λn=>(Dh (((decide (c<0))||(decide (c>=(d.length:Int))))||(!n)) 8).bind λo=>some (o,a) else if b.Xi==6 then (M2 e g x h).bind λp=>(Dh (c !=p) 9).bind λq=>some (q,a) else if b.Xi==8 then (Pn e g i b).bind λf=>(idx e.w f.1).bind λr=>(idx r f.2).bind λs=>(idx (e.x).Xa f.1).bind λt=>(CW t b.Of).bind λu=>(idx s u).bind λv=>(Dh (c !=v) 16).bind λw=>some (w,a) else some (0,a)
instance gH:SpcS prog 34 (∀{c e f g j b r},NA e f g j b=some r->FnOk prog 34 [tptr (KC.cs e),ti f,ti g,ti j,tv c] [omap AE b c] (λ_=>[omap AE r.2 c]) (λ_=>ti r.1)):=.mk λ{c e f g j b r} h=>by
 refine Fe func34 ntmps34 λB M C a=>?_
 apply Qa 124
 have⟨o,_,_,_,_,_,l,_,h⟩:=bs4 h
 refine QU [vb 18 (Qq.cs zz1),vb 18 (Qq.cs o)] [19,20] 66584576 λD=>?_
 apply tFz 1
 have⟨_,_,h⟩:=bs h
 refine QU [vb 9 (Qd.cs zz0),vb 9 (Qd.cs l)] [10,11] 523264 λE=>?_
 apply tFz 1
 apply Qa 4092
 refine Qf λ_ p=>?_
 apply Qa 8188
 apply Qk
 apply Qa 16380
 apply Qo h<;>intro _ h
 ·refine tIfs h 66064 (λ_ h=>?_) λ_ h=>?_
  ·apply Qa 18
   exact Qp h (·▸AO undef [0] a)
  refine Qa 210 ?_ (λ_=>by refine' pr 2 ?_;refine' rx (.u [0] rfl rfl (Mt (x0:=false) ud81 ud3 tok4 zok4 z1 z0)) 1 ?_;exact rnn)
  refine Qf λ_ q=>?_
  have⟨k,d,h⟩:=bs h
  refine AB [v0 (omap AE k c)] [3] 90 (λF=>?_) (λ_=>by refine' pr 2 ?_;refine' rx (.e [] [0] [1] rfl rfl rfl rfl (JP ud81 ud3 z1 z0 .k d)) 0 ?_;exact rnn)
  apply q
  have⟨_,_,h⟩:=bs h
  apply Qa 184
  exact Qp h (·▸AO undef [0] a)
 refine Qf λs t=>?_
 apply Qa 32756
 have⟨u,h0,h⟩:=bs h
 refine tJ0 [(63,tb u)] 2081153 [] 2 s ?_ λm=>?_
 ·apply t
  apply Qo h<;>intro _ h
  ·have⟨_,v,h⟩:=bs h
   refine Qa 65552 ?_ (λ_=>by refine' pr 2 ?_;refine' rx (.p rfl (DK cal (T5.ok v) z1 (.cons (.of z0)<|.nil))) 1 ?_;exact rnn)
   exact Qp h (·▸AO undef [0] a)
  apply Qa 32756
  apply Qo h<;>intro _ h
  ·have⟨_,_,_,_,h⟩:=bs2 h
   apply Qa 137472507904
   exact Qp h (·▸AO undef [0] a)
  apply Qa 32756
  apply Qo h<;>intro _ h
  ·refine Qf λw x=>?_
   apply Qa 34760
   have⟨y,z,h⟩:=bs h
   refine tJ0 [(14,ti y)] 131457 [] 2 w ?_ λn=>?_
   ·apply x
    have⟨_,A,h⟩:=bs h
    refine Qa 144 ?_ (λ_=>by refine' pr 2 ?_;refine' rx (.p rfl (DK cal (T5.ok A) z1 (.cons (.of z0)<|.nil))) 1 ?_;exact rnn)
    exact Qp h (·▸AO undef [0] a)
   replace h:=z
   apply Qo h<;>intro _ h
   ·have⟨_,_,_,_,h⟩:=bs2 h
    apply QJ 70656
    cases sj h
    exact QN n 14
   apply Qu
   cases sj h
   exact QN n 229897
  apply Qa 32468
  apply Qo h<;>intro _ h
  ·have⟨_,_,_,_,_,_,_,_,h⟩:=bs4 h
   refine Qa 8527872 ?_ (λ_=>by refine' pr 6 ?_;refine' rx (.p rfl (Pm (x0:=zz2) (i:=l.Of) trivial underlying89 (Gi ud9) En N6 z2 z0)) 6 ?_;exact rnn)
   apply Qa 1179648
   exact Qp h (·▸AO undef [0] a)
  apply Qa 8180
  apply Qo h<;>intro _ h
  ·have⟨_,_,_,_,h⟩:=bs2 h
   apply Qa 524800
   exact Qp h (·▸AO undef [0] a)
  apply Qa 5092
  apply Qo h<;>intro _ h
  ·have⟨_,_,_,_,_,_,_,_,h⟩:=bs4 h
   apply Qa 177664
   have⟨_,_,_,_,_,_,h⟩:=bs3 h
   apply Qa 8724152320
   exact Qp h (·▸AO undef [0] a)
  apply Qu
  apply p
  apply Qa 258
  exact Qp h (·▸AO undef [0] a)
 replace h:=h0
 apply Qo h<;>intro _ h
 ·apply Qu
  cases sj h
  exact QN m 8190
 apply QJ 16380
 cases sj h
 exact QN m 8190
def KO (k:Int) (q:(List BM)):Option ((List Lz)×Bool):=(mk (i64.wrap (k+1)) ([]:Lz)).bind λr=>(Qr (λ(s0:Int×List Lz)=>if decide (s0.1<(r.length:Int)) then (F8 [1099511627776] (i64.wrap (k+1))).bind λy=>(setAt s0.2 s0.1 y).bind λd=>(idx d s0.1).bind λz=>(setAt z s0.1 0).bind λA=>(setAt d s0.1 A).bind λe=>some (.inl (i64.wrap (s0.1+1),e)) else some (.inr s0.2)) (0,r)).bind λB=>(Qr (λ(h:Int×List Lz)=>if decide (h.1<(q.length:Int)) then (idx q h.1).bind λi=>(idx h.2 i.a).bind λs=>(idx s i.b).bind λC=>(setAt s i.b (imin C i.n)).bind λD=>(setAt h.2 i.a D).bind λf=>some (.inl (i64.wrap (h.1+1),f)) else some (.inr h.2)) (0,B)).bind λt=>(Qr (λ(b:Int×List Lz)=>if decide (b.1<(t.length:Int)) then (mk (i64.wrap (k+1)) 0).bind λu=>(idx b.2 b.1).bind λv=>(Qr (λ(a:Int×List Lz)=>if decide (a.1<(b.2.length:Int)) then ((idx a.2 a.1).bind λP=>(idx a.2 a.1).bind λE=>(idx E b.1).bind λF=>if decide (F>=1099511627776) then some a.2 else (Qr (λ(c:Int×List Lz)=>if decide (c.1<((cpy u v).length:Int)) then (idx (cpy u v) c.1).bind λw=>(if decide (w<1099511627776) then (idx c.2 a.1).bind λl=>(idx l c.1).bind λH=>(idx l b.1).bind λm=>(setAt l c.1 (imin H (i64.wrap (m+w)))).bind λn=>(setAt c.2 a.1 n).bind λg=>some g else some c.2).bind λI=>some (.inl (i64.wrap (c.1+1),I)) else some (.inr c.2)) (0,a.2)).bind λK=>some K).bind λL=>some (.inl (i64.wrap (a.1+1),L)) else some (.inr a.2)) (0,b.2)).bind λM=>some (.inl (i64.wrap (b.1+1),M)) else some (.inr b.2)) (0,t)).bind λo=>(Qr (λ(j:Int)=>((if decide (j<(o.length:Int)) then (idx o j).bind λN=>(idx N j).bind λp=>if decide (p<0) then some (.inr (.inr (false,[]))) else some (.inl (i64.wrap (j+1))) else some (.inr (.inl ()))):Option (Int⊕(Unit⊕(Bool×List Lz))))) 0).bind λO=>(match O with | .inl _=>(some (o,true)) | .inr x=>some (x.2,x.1))
instance gI:SpcS prog 126 (∀{p L r},KO p L=some r->FnOk prog 126 [ti p,tsl Bm L] [] (λv=>[own rVal 22 (tabU v) (tabV v),rows rI 3 r.1 (tabU v)]) (λv=>ttup [tv (tabV v),tb r.2])):=.mk λ{p L r} h=>by
 refine Fe func126 ntmps126 λM0 M W w=>?_
 apply Qa 24
 have⟨t0,h0,e3,h1,h⟩:=bs2 h
 refine QU [vo 2 rVal 22 (replicate (i64.wrap (p+1)).toNat nilV)] [3] 120 (λm0=>?_) (λ_=>by refine' pr 2 ?_;refine' rx (.m [] [0] rfl rfl rfl (M6 (α:=Int) ud51 Ak (leb rfl) z0 z0 h0)) 1 ?_;exact rnn)
 refine Q1 (As'':=[rows rI 3 t0 (replicate (i64.wrap (p+1)).toNat nilV),own rVal 22 (replicate (i64.wrap (p+1)).toNat nilV) (m0 2)]) (λ_ _ H=>H.rowsM rI 3 h0) ?_
 refine Qf λK0 k0=>?_
 refine Qa 254 ?_ (λ_=>by refine' pr 1 ?_;refine' rx (.u [1,0] rfl rfl (NB ud51 z0)) 1 ?_;exact rnn)
 have J0:∀X a x,X=e3->To M W 136 [(6,tv x),(0,ti p),(1,tsl Bm L)] [rows rI 3 X a,own rVal 22 a x] K0:=by
  intro X a x g;subst g;refine k0 <|Qf λK1 k1=>Qa 62 ?_;have⟨e4,h2,h⟩:=bs h;refine tJp (λ_=>[]) 773 (λp1=>[rows rI 3 p1 a]) 385 K1 (·=e4) (λp1 g=>?_) λJ1=>?_
  ·subst g;refine k1 <|Qf λK2 k2=>?_;refine Qa 62 ?_ (λ_=>by refine' pr 1 ?_;refine' rx (.u [1,0] rfl rfl (NB ud51 z0)) 1 ?_;exact rnn);have⟨e5,h3,h⟩:=bs h;refine tJp (λ_=>[]) 5 (λY=>[rows rI 3 Y a]) 385 K2 (·=e5) (λY g=>?_) λJ2=>?_
   ·subst g;refine k2 <|Qf λK3 k3=>?_;refine Qa 30 ?_ (λ_=>by refine' pr 1 ?_;refine' rx (.u [1,0] rfl rfl (NB ud51 z0)) 1 ?_;exact rnn);have⟨e6,h4,h⟩:=bs h;refine tJp (λ_=>[]) 5 (λ_=>[]) 127 K3 (.inl ·=e6) (λp3 g=>?_) λJ3=>?_
    ·subst g;simp only at h;refine k3 <|Qa 30 ?_;exact Qp h (·▸AO (tabX x a) [1,0] w)
    have J4:∀N c O,(.inr N)=e6->To M W 136 [(4,tv O),(5,tb N.1)] [rows rI 3 N.2 c,own rVal 22 c O] (Ret prog f126 M0 [] W (λv=>[own rVal 22 (tabU v) (tabV v),rows rI 3 r.1 (tabU v)]) (λv=>ttup [tv (tabV v),tb r.2]) .ret):=by
     intro N c O g;subst g;simp only at h;cases sj h;exact AO (tabX O c) [1,0] w
    refine Qk <|AC h4 (λs0=>[(123,ti s0)]) 82051 (λs0=>[]) 127 28 ?_;intro s0 o K4 h i k4;apply Qa 30;refine Qf λ_ k5=>Qo h (λ_ h=>?_) λ_ h=>?_
    ·refine Qu <|k5 <|Qf λ_ k6=>Qk <|Qa 116 ?_;refine Qf λ_ k7=>?_;have⟨r2,P,_,h6,h⟩:=bs2 h;refine QJ 7426 ?_ (λ_=>by refine' pr 2 ?_;refine' rx (.u [1,0] rfl rfl (Fw ud51 Ak z1 z0 P)) 0 ?_;refine' rx (.u [1,0] rfl rfl (Gj Ak z0 P)) 1 ?_;refine' rx (.u [0] rfl rfl (JW ud22 tok3 z1 z0 P h6)) 0 ?_;refine' rx (.u [0] rfl rfl (JX tok3 z0 P h6)) 1 ?_;exact rnn);refine k7 <|DJ 1 (λZ=>?_) λZ=>?_
     ·replace h:=C6 Z h;apply Qa 142;refine Q1 (As'':=[rows rI 3 ([]:List Lz) ([]:List Value),own rVal 22 ([]:List Value) (.slice none 0 0),rows rI 3 Y a,own rVal 22 a x]) (λ_ _ H=>(H.nil rVal 22).rowsN rI 3) ?_;apply AG;refine AA (λ_ _ H=>(H.pick [0,1]).Xk [0,1] rfl) ?_;exact D2 J4 ([]:List Value) (.slice none 0 0) (i _ (sy h)) 6
     replace h:=C7 Z h;refine Qu <|k6 <|QJ 108 ?_;exact Qx k4 (sy h) 131335
    refine QQ <|Qx J3 (i _ (sy h)) 16
   refine Qk <|AC h3 (λQ=>[(68,ti Q.1)]) 12664963 (λQ=>[rows rI 3 Q.2 a]) 385 60 ?_;intro Q o K5 h i k8;apply Qa 62;refine Qf λ_ k9=>Qo h (λ_ h=>?_) λ_ h=>?_
   ·refine Qu <|k9 <|Qf λK6 a0=>Qk <|Qa 244 ?_;have⟨t1,_,h⟩:=bs h;refine QU [vo 2 rI 3 t1] [3] 1016 λm1=>?_;refine Qf λ_ a1=>?_;have⟨r3,h7,h⟩:=bs h;refine AB [v0 (own rI 3 (cpy t1 r3) (m1 2))] [6] 16262 (λm2=>?_) (λ_=>by refine' pr 3 ?_;refine' rx (.u [1,0] rfl rfl (Fw ud51 Ak z1 z0 h7)) 0 ?_;refine' rx (.u [1,0] rfl rfl (Gj Ak z0 h7)) 0 ?_;refine' rx (.e [0] [2] [3] rfl rfl rfl rfl (gJ (R:=rI) ud22 rfl tok3 z4 z0 h7)) 0 ?_;exact rnn);apply a1;refine Qa 8190 ?_ (λ_=>by refine' pr 1 ?_;refine' rx (.u [1,0] rfl rfl (NB ud51 z0)) 1 ?_;exact rnn);have⟨e7,h8,h⟩:=bs h;refine tJp (λ_=>[]) 16266 (λp5=>[rows rI 3 p5 a]) 385 K6 (·=e7) (λp5 g=>?_) λJ5=>?_
    ·subst g;refine a0 <|QJ 60 ?_;exact Qx k8 (sy h) 16875781
    refine Qk <|AC h8 (λS=>[(82,ti S.1)]) 34108096898 (λS=>[rows rI 3 S.2 a]) 65921 8078 ?_;intro S o K7 h i a2;apply Qa 2046;refine Qf λ_ a3=>Qo h (λ_ h=>?_) λ_ h=>?_
    ·refine Qu <|a3 <|Qf λK8 a4=>?_;have⟨p6,h9,h⟩:=bs h;refine tJ0 [] 16259 [rows rI 3 p6 a] 65921 K8 ?_ λJ6=>?_
     ·refine a4 <|QJ 2044 ?_;exact Qx a2 (sy h) 1306105879606625029
     replace h:=h9;refine Qk <|Qf λ_ a5=>?_;have⟨r4,y,h⟩:=bs h;refine QJ 65456 ?_ (λ_=>by refine' pr 1 ?_;refine' rx (.u [1,0] rfl rfl (Fw ud51 Ak z2 z4 y)) 0 ?_;refine' rx (.u [1,0] rfl rfl (Gj Ak z0 y)) 2 ?_;exact rnn);refine a5 <|Qf λ_ a6=>Qf λ_ a7=>?_;have⟨r5,z,_,A,h⟩:=bs2 h;refine QJ 131040 ?_ (λ_=>by refine' pr 2 ?_;refine' rx (.u [0] rfl rfl (JW ud22 tok3 z1 z0 z A)) 0 ?_;refine' rx (.u [0] rfl rfl (JX tok3 z0 z A)) 1 ?_;exact rnn);refine a7 <|Qo h (λ_ h=>?_) λ_ h=>?_
     ·apply QQ;cases sj h;exact QN J6 8176
     refine Qu <|a6 <|Qa 65518 ?_;have⟨e8,a8,h⟩:=bs h;refine tJp (λ_=>[]) 16263 (λp7=>[rows rI 3 p7 a]) 65921 K8 (·=e8) (λp7 g=>?_) λJ7=>?_
     ·subst g;cases sj h;exact QN J6 1022
     refine Qk <|AC a8 (λT=>[(94,ti T.1)]) 34101805442 (λT=>[rows rI 3 T.2 a]) 65921 32766 ?_;intro T o K9 h i a9;apply Qa 65534;refine Qf λ_ b1=>Qo h (λ_ h=>?_) λ_ h=>?_
     ·refine Qu <|b1 <|Qf λb2 b3=>Qk ?_;have⟨_,_,p8,b4,h⟩:=bs2 h;apply Qa 2097072;apply Qa 524284;refine tJ0 [] 16261 [rows rI 3 p8 a] 16899 b2 ?_ λJ8=>?_
      ·refine b3 <|QJ 65532 ?_;refine AA (λ_ _ H=>(H.pick [1,2,0,3,4,5,6,7,8,9,10,11,12,13]).Xk [2,0,1] rfl) ?_;exact Qx a9 (sy h) 32766
      replace h:=b4;apply Qo h<;>intro _ h
      ·have⟨r6,d,h⟩:=bs h;have⟨_,B,_,C,_,D,h⟩:=bs3 h;have⟨s,k,h⟩:=bs h;refine AB [v0 (rows rI 3 s a)] [18] 34357641218 (λm3=>?_) (λ_=>by refine' pr 2 ?_;refine' rx (.u [1,0] rfl rfl (Fw ud51 Ak z1 z0 d)) 0 ?_;refine' rx (.u [1,0] rfl rfl (Gj Ak z0 d)) 3 ?_;refine' rx (.u [0] rfl rfl (JW ud22 tok3 z1 z0 d B)) 0 ?_;refine' rx (.u [0] rfl rfl (JX tok3 z0 d B)) 2 ?_;refine' rx (.u [0] rfl rfl (JW ud22 tok3 z1 z0 d C)) 0 ?_;refine' rx (.u [0] rfl rfl (JX tok3 z0 d C)) 3 ?_;refine' rx (.u [0] rfl rfl (Pv ud22 tok3 z12 z11 d D)) 0 ?_;refine' rx (.e [] [0] [3] rfl rfl rfl rfl (Pw tok3 z0 z1 d D k)) 0 ?_;exact rnn);cases sj h;exact QN J8 65532
      apply Qu;cases sj h;refine AA (λ_ _ H=>(H.pick [3,4,5,6,7,8,9,10,11,12,13,14,15,16]).Xk [1,2,0] rfl) ?_;exact QN J8 32766
     refine QQ <|Qx J7 (i _ (sy h)) 65408
    refine QQ <|AA (λ_ _ H=>(H.pick [6,7,8,9]).Xk [0,1] rfl) ?_;exact Qx J5 (i _ (sy h)) 30
   refine QQ <|Qx J2 (i _ (sy h)) 16
  refine Qk <|AC h2 (λU=>[(41,ti U.1)]) 1621115266 (λU=>[rows rI 3 U.2 a]) 385 62 ?_;intro U o c2 h i b5;apply Qa 126;refine Qf λ_ b6=>Qo h (λ_ h=>?_) λ_ h=>?_
  ·refine Qu <|b6 <|Qf λ_ b7=>Qk ?_;have⟨t2,_,h⟩:=bs h;refine QU [vb 2 (Bm.cs (BM.mk (0:Int) (0:Int) (0:Int))),vb 2 (Bm.cs t2)] [3,4] 1000 λm4=>?_;apply tFz 2;have⟨r7,e,h⟩:=bs h;have⟨_,E,_,F,h⟩:=bs2 h;have⟨t,l,h⟩:=bs h;refine AB [v0 (rows rI 3 t a)] [21] 130023682 (λm5=>?_) (λ_=>by refine' pr 3 ?_;refine' rx (.u [1,0] rfl rfl (Fw ud51 Ak z2 z0 e)) 0 ?_;refine' rx (.u [1,0] rfl rfl (Gj Ak z0 e)) 5 ?_;refine' rx (.u [1,0] rfl rfl (Fw ud51 Ak z2 z0 e)) 0 ?_;refine' rx (.u [1,0] rfl rfl (Gj Ak z0 e)) 2 ?_;refine' rx (.u [0] rfl rfl (JW ud22 tok3 z2 z0 e E)) 0 ?_;refine' rx (.u [0] rfl rfl (JX tok3 z0 e E)) 3 ?_;refine' rx (.u [0] rfl rfl (Pv ud22 tok3 z14 z12 e F)) 0 ?_;refine' rx (.e [] [0] [2] rfl rfl rfl rfl (Pw tok3 z0 z1 e F l)) 0 ?_;exact rnn);refine b7 <|QJ 508 ?_;refine AA (λ_ _ H=>(H.pick [3,4,0,5,6]).Xk [1,0] rfl) ?_;exact Qx b5 (sy h) 62
  refine QQ <|Qx J1 (i _ (sy h)) 96
 refine Qk <|M5 h1 (λj b q=>[(22,ti j.1),(6,tv q)]) 2162180227 (λj b q=>[rows rI 3 j.2 b,own rVal 22 b q]) 129 (replicate (i64.wrap (p+1)).toNat nilV) (m0 2) 236 ?_;intro j b q o c3 h i b8;apply Qa 126;refine Qf λ_ b9=>Qo h (λ_ h=>?_) λ_ h=>?_
 ·refine Qu <|b9 <|Qf λ_ c0=>Qk <|Qa 500 ?_;refine Qf λ_ c1=>?_;have⟨t3,_,I,f,h⟩:=bs2 h;refine AB [vo 5 rI 3 t3,v1 5 (λv0=>own rVal 22 (b.set (j.1).toNat v0) q)] [6,8] 16194 (λV=>?_) (λ_=>by refine' pr 6 ?_;refine' rx (.u [1,0] rfl rfl (gK ud51 Ak z5 z4 f)) 0 ?_;refine' rx (.e [0,2] [1] [3] rfl rfl rfl rfl (gL (e1:=22) (e2:=3) Ak z0 z1 f)) 0 ?_;exact rnn);refine AA (As'':=[rows rI 3 I (b.set (j.1).toNat (V 5)),own rVal 22 (b.set (j.1).toNat (V 5)) q]) (λ_ _ H=>(H.Xk [1,0,2] rfl).put (j.1) f) ?_;apply c1;have⟨r8,m,_,K,u,n,h⟩:=bs3 h;refine AB [v0 (rows rI 3 u (b.set (j.1).toNat (V 5)))] [7] 31874 (λm7=>?_) (λ_=>by refine' pr 2 ?_;refine' rx (.u [1,0] rfl rfl (Fw ud51 Ak z1 z0 m)) 0 ?_;refine' rx (.u [1,0] rfl rfl (Gj Ak z0 m)) 1 ?_;refine' rx (.u [0] rfl rfl (Pv ud22 tok3 z1 z0 m K)) 0 ?_;refine' rx (.e [] [0] [2] rfl rfl rfl rfl (Pw tok3 z0 .k m K n)) 0 ?_;exact rnn);refine c0 <|QJ 508 ?_;refine AA (λ_ _ H=>(H.pick [3,0,4,5,6]).Xk [1,0] rfl) ?_;exact D2 b8 (b.set (j.1).toNat (V 5)) q (sy h) 62
 refine QQ <|D2 J0 b q (i _ (sy h)) 112
def KU (b:Int) (d:(List QH)):Option ((List Lz)×Int):=(KI b d).bind λa=>if a.2 !=0 then some ([],a.2) else (KO b a.1).bind λc=>if !c.2 then some ([],14) else some (c.1,0)
instance vL:Spc2 prog 70 KU (λb c=>[ti b,tsl B7 c]) (λr=>ttup [tsl (rSl rI) r.1,ti r.2]):=.mk λ{b c r} h=>by
 refine Fe func70 ntmps70 λe M f a=>?_
 apply Qa 24
 have⟨_,h0,h⟩:=bs h
 refine Qa 896 ?_ (λ_=>by refine' pr 2 ?_;refine' rx (.p rfl (QO cal ((fW.ok h0).ro gM) (.cons (.of z1)<|.cons (.of z0)<|.nil))) 5 ?_;exact rnn)
 refine tIfs h 60 (λ_ h=>?_) λ_ h=>?_
 ·apply Qa 12
  exact tRE h a
 have⟨_,d,h⟩:=bs h
 refine Qa 384 ?_ (λ_=>by refine' pr 2 ?_;refine' rx (.p rfl (QO cal ((gI.ok d).roT gN) (.cons (.of z1)<|.cons (.of z0)<|.nil))) 5 ?_;exact rnn)
 refine tIfs h 12 (λ_ h=>?_) λ_ h=>?_
 ·apply Qa 6
  exact tRE h a
 apply Qa 12
 exact tRE h a
def JY (a:Q2) (c:Int):Option (Int×Q2):=(idx a.w c).bind λp=>if (p.length:Int)==0 then some (0,Q2.mk a.x a.old a.w) else (IW a.x c).bind λg=>(KU (g.1.length:Int) g.2).bind λk=>if k.2 !=0 then some (14,Q2.mk a.x a.old a.w) else (idx a.w c).bind λq=>(Qr (λ(s0:Int×List (List Lz))=>((if decide (s0.1<(q.length:Int)) then (idx s0.2 c).bind λr=>(idx r s0.1).bind λB=>(Qr (λ(b:Int×Lz×List (List Lz))=>((if decide (b.1<(g.1.length:Int)) then (idx g.1 b.1).bind λi=>(KW k.1 b.2.1).bind λh=>if h.2.2 !=0 then some (.inr (.inr (14,b.2.2))) else (idx a.old c).bind λs=>(if decide (s0.1<(s.length:Int)) then (idx a.old c).bind λt=>(idx t s0.1).bind λu=>(idx u i).bind λv=>(FQ v h.1 h.2.1).bind λw=>some w else some h.1).bind λj=>(idx b.2.2 c).bind λl=>(idx l s0.1).bind λm=>(idx m i).bind λC=>(setAt m i j).bind λd=>(setAt l s0.1 d).bind λe=>(setAt b.2.2 c e).bind λf=>(rm (b.2.1.length+[j].length)).bind λ_=>some (.inl (i64.wrap (b.1+1),b.2.1++[j],f)) else some (.inr (.inl b.2.2))):Option ((Int×Lz×List (List Lz))⊕((List (List Lz))⊕(Int×List (List Lz)))))) (0,[],s0.2)).bind λx=>(match x with | .inl y=>(some (.inl (i64.wrap (s0.1+1),y))) | .inr n=>some (.inr (.inr (n.1,n.2)))) else some (.inr (.inl s0.2))):Option ((Int×List (List Lz))⊕((List (List Lz))⊕(Int×List (List Lz)))))) (0,a.w)).bind λz=>(match z with | .inl A=>(some (0,Q2.mk a.x a.old A)) | .inr o=>some (o.1,Q2.mk a.x a.old o.2))
instance gO:SpcS prog 27 (∀{m a i q r},JY i q=some r->FnOk prog 27 [tv m,ti q] [bxM i.x i.old (dh a) m,deep (dRow (dOwn rI 3) 22) 51 i.w a] (λ_=>[bxM (r.2).x (r.2).old (dh a) m,deep (dRow (dOwn rI 3) 22) 51 (r.2).w a]) (λ_=>ti r.1)):=.mk λ{m a i q r} h=>by
 unfold JY at h
 refine Fe func27 ntmps27 λM0 M w0 b=>?_
 apply Qa 12
 refine Qf λ_ P=>?_
 refine Qf λ_ Q=>?_
 have⟨r2,h0,h⟩:=bs h
 refine QJ 3600 ?_ (λ_=>by refine' pr 5 ?_;refine' rx (.u [1] rfl rfl (Ay ud29 BZ z1 z0 h0)) 0 ?_;refine' rx (.u [1] rfl rfl (A9 Bb z0 h0)) 0 ?_;refine' rx (.u [1] rfl rfl (.part (Q9 h0 .refl) (Ee ud51 z0))) 1 ?_;exact rnn)
 apply Q
 refine DJ 1 (λs=>?_) λs=>?_
 ·replace h:=C6 s h
  apply Qa 22
  exact Qp h (·▸AO undef [0,1] b)
 replace h:=C7 s h
 apply Qu
 apply P
 have⟨_,_,_,_,h⟩:=bs2 h
 apply Qa 56320
 apply Qa 30464
 refine tIfs h 492 (λ_ h=>?_) λ_ h=>?_
 ·apply Qa 98
  exact Qp h (·▸AO undef [0,1] b)
 refine Qf λR S=>?_
 refine Qf λ_ T=>?_
 have⟨r3,t,h⟩:=bs h
 refine QJ 64400 ?_ (λ_=>by refine' pr 5 ?_;refine' rx (.u [1] rfl rfl (Ay ud29 BZ z1 z0 t)) 0 ?_;refine' rx (.u [1] rfl rfl (A9 Bb z0 t)) 0 ?_;refine' rx (.u [1] rfl rfl (.part (Q9 t .refl) (Ee ud51 z0))) 1 ?_;exact rnn)
 apply T
 have⟨z,U,h⟩:=bs h
 refine tJp (λ_=>[]) 9 (λA=>[deep (dRow (dOwn rI 3) 22) 51 A a]) 130 R (.inl ·=z) (λA c=>?_) λV=>?_
 ·subst c
  simp only at h
  apply S
  apply Qa 6
  exact Qp h (·▸AO undef [0,1] b)
 refine tJr (λn=>[(4,ti n.1)]) 1153 (λn=>[deep (dRow (dOwn rI 3) 22) 51 n.2 a]) 130 (.inr ·=z) (λn c=>?_) λW=>?_
 ·subst c
  simp only at h
  cases sj h
  exact AO undef [0,1] b
 apply Qk
 refine AC U (λs0=>[(53,ti s0.1)]) 44291594404355 (λs0=>[deep (dRow (dOwn rI 3) 22) 51 s0.2 a]) 130 892 ?_
 intro s0 o K1 h j X
 apply Qa 510
 refine Qf λ_ Y=>?_
 apply Qo h<;>intro _ h
 ·apply Qu
  apply Y
  refine Qf λZ k6=>?_
  apply Qk
  refine Qf λ_ k7=>?_
  have⟨r4,B,r5,C,h⟩:=bs2 h
  refine QJ 16304 ?_ (λ_=>by refine' pr 1 ?_;refine' rx (.u [1] rfl rfl (.part (Q9 B .refl) (Ay ud51 B6 z2 z4 C))) 0 ?_;refine' rx (.u [1] rfl rfl (.part (Q9 B .refl) (A9 Ak z0 C))) 2 ?_;exact rnn)
  apply k7
  apply Qa 2046
  apply tNl rI 3
  apply Qa 16382
  have⟨D,h5,h⟩:=bs h
  refine tJp (λ_=>[]) 16264 (λE=>[deep (dRow (dOwn rI 3) 22) 51 E a]) 131 Z (.inl ·=D) (λE c=>?_) λJ2=>?_
  ·subst c
   simp only at h
   apply k6
   apply QJ 508
   exact Qx X (sy h) 61987669181189
  refine tJr (λp=>[(4,ti p.1)]) 1665 (λp=>[deep (dRow (dOwn rI 3) 22) 51 p.2 a]) 131 (.inr ·=D) (λp c=>?_) λJ3=>?_
  ·subst c
   simp only at h
   exact Qx W (j _ (sy h)) 6
  apply Qk
  refine AT h5 (λd k=>[(60,ti d.1),(11,tv k)]) 4365299499394 (λd k=>[own rI 3 d.2.1 k,deep (dRow (dOwn rI 3) 22) 51 d.2.2 a]) 16769 (.slice none 0 0) 16382 ?_
  intro d k o K3 h j k8
  apply Qa 32766
  refine Qf λ_ k9=>?_
  apply Qo h<;>intro _ h
  ·apply Qu
   apply k9
   refine Qf λ_ u=>?_
   apply Qk
   have⟨_,_,_,h6,h⟩:=bs2 h
   apply Qa 262120
   refine Qa 33554180 ?_ (λ_=>by refine' pr 2 ?_;refine' rx (.u [0] rfl rfl (CY [own rI 3 d.2.1 k] cal (gA.ok h6) (.cons (.of z1)<|.cons (.own z0 (.head _))<|.nil) (λ_=>Ud (H1 Ah (H1 Ah (H1 Ah Ue)))) (λ_=>EY (x:=undef)))) 7 ?_;exact rnn)
   refine tIfs h 2097084 (λ_ h=>?_) λ_ h=>?_
   ·apply Qa 263178
    apply AG
    refine AA (λ_ _ H=>(H.pick [0,3]).Xk [1,2] rfl) ?_
    exact Qx J3 (j _ (sy h)) 6
   apply Qa 2097140
   refine Qf λK4 v=>?_
   have⟨_,_,F,h7,h⟩:=bs2 h
   apply Qa 536869888
   refine tJ0 [(17,ti F)] 2081665 [] 127 K4 ?_ λI=>?_
   ·apply v
    refine Qf λ_ w=>?_
    have⟨r6,K,r7,L,r8,y,N,e,h⟩:=bs4 h
    have⟨O,f,l,g,h⟩:=bs2 h
    refine AB [v0 (deep (dRow (dOwn rI 3) 22) 51 l a)] [5] 1048480 (λm0=>?_) (λ_=>by refine' pr 3 ?_;refine' rx (.u [2] rfl rfl (.part (Q9 K (Q9 L .refl)) (CC ud22 tok3 z2 z1 y))) 0 ?_;refine' rx (.e [] [2] [3] rfl rfl rfl rfl (.focus (Bz K g (Bz L f (.refl λ_=>Iff.rfl))) (Db tok3 z0 z1 e))) 0 ?_;exact rnn)
    apply w
    have⟨_,_,h⟩:=bs h
    refine AB [vo 3 rI 3 (d.2.1++[F])] [4] 524208 λm1=>?_
    apply u
    apply QJ 65532
    refine AA (λ_ _ H=>(H.pick [3,4,0,2,5,6,7,8,9,10,11,12,13]).Xk [2,0,1] rfl) ?_
    exact Q7 k8 (m1 3) (sy h) 16382
   replace h:=h7
   apply Qo h<;>intro _ h
   ·have⟨_,_,_,_,_,_,_,_,h⟩:=bs4 h
    apply QJ 68715937792
    cases sj h
    exact QN I 131066
   apply Qu
   cases sj h
   exact QN I 1048516
  apply QQ
  refine AA (λ_ _ H=>(H.pick [7,8,9,10,11,12,13]).Xk [1,2] rfl) ?_
  exact Qx J2 (j _ (sy h)) 254
 apply QQ
 exact Qx V (j _ (sy h)) 128
