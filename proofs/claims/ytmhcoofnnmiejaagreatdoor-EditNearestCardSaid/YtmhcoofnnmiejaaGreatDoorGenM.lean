/- The walk. No condition. -/
import Derived.Test.YtmhcoofnnmiejaaGreatDoorGenI
import Derived.Test.YtmhcoofnnmiejaaGreatDoorGenJ
import Derived.Test.YtmhcoofnnmiejaaGreatDoorGenL
set_option linter.all false
open List Go.Proofs.Tryz Go.IntKind
namespace Go.Proofs.YtmhcoofnnmiejaaGreatDoor
noncomputable section
open Go.Sim
set_option maxRecDepth 100000
set_option maxHeartbeats 4000000
def Qdz (e:QaB) (g:Int) (x:Int) (h:Int) (a:(Mp Bool)):Option (Int×(Mp Bool)):=(idx (e.x).Xa g).bind λy=>(idx e.w g).bind λz=>(idx z x).bind λi=>(idx y.Xb h).bind λb=>(idx i h).bind λc=>(if (b.Xi==0)=true then (if (decide (c<b.Lo))=true then (some ((5:Int),a)) else (mput a c true).bind λj=>(Qb0 ((QaX a c).getD false) 7).bind λA=>(some (A,j))) else ((if (b.Xi==2)=true then (some (b.Xi==2)) else (some (b.Xi==7)))).bind λB=>(if B=true then (Qcn c b).bind λC=>(some (C,a)) else (if (b.Xi==3)=true then (opt (((decide (c<0))||(decide (c>=(b.Words.length:Int))))==false) (idx b.Xf (imax 0 (imin c (i64.wrap ((b.Words.length:Int) - 1))))) default).bind λD=>(Qb0 (((decide (c<0))||(decide (c>=(b.Words.length:Int))))||(D==0)) 5).bind λE=>(some (E,a)) else (if (b.Xi==4)=true then ((if (b.Of !=([]:Str))=true then (Qa4 y b.Of).bind λF=>(idx i F).bind λk=>(some (i64.wrap (c - k))) else (some c))).bind λH=>(Qcn H b).bind λl=>(some (l,a)) else (if (b.Xi==5)=true then (Qha ((QbF e.lives b.Of).getD zz2) b.Lo b.Hi).bind λd=>(opt (((decide (c<0))||(decide (c>=(d.length:Int))))==false) (QhF d) default).bind λm=>(opt (((decide (c<0))||(decide (c>=(d.length:Int))))==false) (Qdy m c) default).bind λn=>(Qb0 (((decide (c<0))||(decide (c>=(d.length:Int))))||(!n)) 8).bind λo=>(some (o,a)) else (if (b.Xi==6)=true then (Qd7 e g x h).bind λp=>(Qb0 (c !=p) 9).bind λq=>(some (q,a)) else (if (b.Xi==8)=true then (QfO e g i b).bind λf=>(idx e.w f.1).bind λr=>(idx r f.2).bind λs=>(idx (e.x).Xa f.1).bind λt=>(Qa4 t b.Of).bind λu=>(idx s u).bind λv=>(Qb0 (c !=v) 16).bind λw=>(some (w,a)) else (some ((0:Int),a)))))))))
instance QlD:SpcS prog 76 (∀{c e f g j b r},Qdz e f g j b=some r->FnOk prog 76 [tptr (Qbv.cs e),ti f,ti g,ti j,tv c] [omap Qag b c] (λ_=>[omap Qag r.2 c]) (λ_=>ti r.1)):=.mk λ{c e f g j b r} h=>by
 unfold Qdz at h
 refine Fe func76 ntmps76 λB M C a=>?_
 refine Qa 124 ?_
 have⟨p,_,_,_,_,_,h⟩:=bs3 h
 refine QU [v1 18 (λv0=>box (Qq.cs zz1) v0),v1 18 (λv0=>box (Qq.cs p) v0)] [19,20] 66584576 λD=>?_
 refine Q1 (λ_ _ H=>(((H.Xk [1,0] rfl).Xl 0 rfl).add 0 rfl (λ_ _ _ h=>h.2)).pick [0,3,4,5,6,7,8]) ?_
 have⟨l,_,_,_,h⟩:=bs2 h
 refine QU [v1 9 (λv0=>box (Qd.cs zz0) v0),v1 9 (λv0=>box (Qd.cs l) v0)] [10,11] 523264 λE=>?_
 refine Q1 (λ_ _ H=>(((H.Xk [1,0] rfl).Xl 0 rfl).add 0 rfl (λ_ _ _ h=>h.2)).pick [0,3,4,5,6,7,8,9,10]) ?_
 refine Qa 4092 ?_
 refine Qf λ_ q=>?_
 refine Qa 8188 ?_
 refine Qk ?_
 refine Qa 16380 ?_
 refine Qo h (λ_ h=>?_) λ_ h=>?_
 ·refine tIfs h 66064 (λ_ h=>?_) λ_ h=>?_
  ·refine Qa 18 ?_
   exact Qp h (·▸QaQ undef [0] a)
  refine Qa 210 ?_ (λ_=>by refine' pr 2 ?_;refine' rx (.u [0] rfl rfl (Qmr (x0:=false) Qog ud3 tok4 zok4 z1 z0)) 1 ?_;exact rnn)
  refine Qf λ_ s=>?_
  have⟨k,d,h⟩:=bs h
  refine QaG [v0 (omap Qag k c)] [3] 90 (λF=>?_) (λ_=>by refine' pr 2 ?_;refine' rx (.e [] [0] [1] rfl rfl rfl rfl (QjS Qog ud3 z1 z0 .k d)) 0 ?_;exact rnn)
  refine s ?_
  have⟨_,_,h⟩:=bs h
  refine Qa 184 ?_
  exact Qp h (·▸QaQ undef [0] a)
 refine Qf λt u=>?_
 refine Qa 32756 ?_
 have⟨v,h0,h⟩:=bs h
 refine tJ0 [(63,tb v)] 2081153 [] 2 t ?_ λm=>?_
 ·refine u ?_
  refine Qo h (λ_ h=>?_) λ_ h=>?_
  ·have⟨_,w,h⟩:=bs h
   refine Qa 65552 ?_ (λ_=>by refine' pr 2 ?_;refine' rx (.p rfl (Qdr QqF (QhE.ok w) z1 (.cons (.of z0)<|.nil))) 1 ?_;exact rnn)
   exact Qp h (·▸QaQ undef [0] a)
  refine Qa 32756 ?_
  refine Qo h (λ_ h=>?_) λ_ h=>?_
  ·have⟨_,_,_,_,h⟩:=bs2 h
   refine Qa 137472507904 ?_
   exact Qp h (·▸QaQ undef [0] a)
  refine Qa 32756 ?_
  refine Qo h (λ_ h=>?_) λ_ h=>?_
  ·refine Qf λx y=>?_
   refine Qa 34760 ?_
   have⟨z,n,h⟩:=bs h
   refine tJ0 [(14,ti z)] 131457 [] 2 x ?_ λo=>?_
   ·refine y ?_
    have⟨_,A,h⟩:=bs h
    refine Qa 144 ?_ (λ_=>by refine' pr 2 ?_;refine' rx (.p rfl (Qdr QqF (QhE.ok A) z1 (.cons (.of z0)<|.nil))) 1 ?_;exact rnn)
    exact Qp h (·▸QaQ undef [0] a)
   replace h:=n
   clear n
   refine Qo h (λ_ h=>?_) λ_ h=>?_
   ·have⟨_,_,_,_,h⟩:=bs2 h
    refine QJ 70656 ?_
    obtain rfl:=sj h
    exact QN o 14
   refine Qu ?_
   obtain rfl:=sj h
   exact QN o 229897
  refine Qa 32468 ?_
  refine Qo h (λ_ h=>?_) λ_ h=>?_
  ·have⟨_,_,h⟩:=bs h
   refine Qa 8527872 ?_ (λ_=>by refine' pr 6 ?_;refine' rx (.p rfl (Qnn (x0:=zz2) (i:=l.Of) trivial underlying163 (Qiy ud9) Qhh Qr2 z2 z0)) 6 ?_;exact rnn)
   have⟨_,_,_,_,_,_,h⟩:=bs3 h
   refine Qa 1179648 ?_
   exact Qp h (·▸QaQ undef [0] a)
  refine Qa 8180 ?_
  refine Qo h (λ_ h=>?_) λ_ h=>?_
  ·have⟨_,_,_,_,h⟩:=bs2 h
   refine Qa 524800 ?_
   exact Qp h (·▸QaQ undef [0] a)
  refine Qa 5092 ?_
  refine Qo h (λ_ h=>?_) λ_ h=>?_
  ·have⟨_,_,h⟩:=bs h
   refine Qa 177664 ?_
   have⟨_,_,_,_,_,_,_,_,h⟩:=bs4 h
   have⟨_,_,_,_,h⟩:=bs2 h
   refine Qa 8724152320 ?_
   exact Qp h (·▸QaQ undef [0] a)
  refine Qu ?_
  refine q ?_
  refine Qa 258 ?_
  exact Qp h (·▸QaQ undef [0] a)
 replace h:=h0
 clear h0
 refine Qo h (λ_ h=>?_) λ_ h=>?_
 ·refine Qu ?_
  obtain rfl:=sj h
  exact QN m 8190
 refine QJ 16380 ?_
 obtain rfl:=sj h
 exact QN m 8190
def Qf5 (k:Int) (q:(List Qaj)):Option ((List (List Int))×Bool):=(mk (i64.wrap (k+1)) ([]:(List Int))).bind λr=>(Qr (λ(s0:Int×List (List Int))=>(if (decide (s0.1<(r.length:Int)))=true then (Qb6 [(1099511627776:Int)] (i64.wrap (k+1))).bind λy=>(setAt s0.2 s0.1 y).bind λd=>(idx d s0.1).bind λz=>(setAt z s0.1 (0:Int)).bind λA=>(setAt d s0.1 A).bind λe=>(some (.inl ((i64.wrap (s0.1+1)),e))) else (some (.inr s0.2)))) ((0:Int),r)).bind λB=>(Qr (λ(h:Int×List (List Int))=>(if (decide (h.1<(q.length:Int)))=true then (idx q h.1).bind λi=>(idx h.2 i.a).bind λs=>(idx s i.b).bind λC=>(setAt s i.b (imin C i.n)).bind λD=>(setAt h.2 i.a D).bind λf=>(some (.inl ((i64.wrap (h.1+1)),f))) else (some (.inr h.2)))) ((0:Int),B)).bind λt=>(Qr (λ(b:Int×List (List Int))=>(if (decide (b.1<(t.length:Int)))=true then (mk (i64.wrap (k+1)) (0:Int)).bind λu=>(idx b.2 b.1).bind λv=>(Qr (λ(a:Int×List (List Int))=>(if (decide (a.1<(b.2.length:Int)))=true then ((idx a.2 a.1).bind λP=>(idx a.2 a.1).bind λE=>(idx E b.1).bind λF=>(if (decide (F>=1099511627776))=true then (some a.2) else (Qr (λ(c:Int×List (List Int))=>(if (decide (c.1<((cpy u v).length:Int)))=true then (idx (cpy u v) c.1).bind λw=>((if (decide (w<1099511627776))=true then (idx c.2 a.1).bind λl=>(idx l c.1).bind λH=>(idx l b.1).bind λm=>(setAt l c.1 (imin H (i64.wrap (m+w)))).bind λn=>(setAt c.2 a.1 n).bind λg=>(some g) else (some c.2))).bind λI=>(some (.inl ((i64.wrap (c.1+1)),I))) else (some (.inr c.2)))) ((0:Int),a.2)).bind λK=>(some K))).bind λL=>(some (.inl ((i64.wrap (a.1+1)),L))) else (some (.inr a.2)))) ((0:Int),b.2)).bind λM=>(some (.inl ((i64.wrap (b.1+1)),M))) else (some (.inr b.2)))) ((0:Int),t)).bind λo=>(Qr (λ(j:Int)=>((if (decide (j<(o.length:Int)))=true then (idx o j).bind λN=>(idx N j).bind λp=>(if (decide (p<0))=true then (some (.inr (.inr (false,([]:List (List Int)))))) else (some (.inl (i64.wrap (j+1))))) else (some (.inr (.inl ())))):Option ((Int)⊕((Unit)⊕(Bool×List (List Int)))))) (0:Int)).bind λO=>(match O with | .inl _=>(some (o,true)) | .inr x=>(some (x.2,x.1)))
instance Qo5:SpcS prog 26 (∀{p N r},Qf5 p N=some r->FnOk prog 26 [ti p,tsl QaK N] [] (λv=>[own rVal 22 (tabU v) (tabV v),rows rI 3 r.1 (tabU v)]) (λv=>ttup [tv (tabV v),tb r.2])):=.mk λ{p N r} h=>by
 unfold Qf5 at h
 refine Fe func26 ntmps26 λM0 M X w=>?_
 refine Qa 24 ?_
 have⟨t0,h0,h⟩:=bs h
 refine QU [v1 2 (λv0=>own rVal 22 (replicate ((i64.wrap (p+1))).toNat nilV) v0)] [3] 120 (λm0=>?_) (λ_=>by refine' pr 2 ?_;refine' rx (.m [] [0] rfl rfl rfl (Qmn (α:=Int) ud40 Qbh (leb rfl) z0 z0 h0)) 1 ?_;exact rnn)
 refine Q1 (As'':=[rows rI 3 t0 (replicate ((i64.wrap (p+1))).toNat nilV),own rVal 22 (replicate ((i64.wrap (p+1))).toNat nilV) (m0 2)]) (λ_ _ H=>H.rowsM (rI) 3 h0) ?_
 refine Qf λK0 k0=>?_
 refine Qa 254 ?_ (λ_=>by refine' pr 1 ?_;refine' rx (.u [1,0] rfl rfl (QnZ ud40 z0)) 1 ?_;exact rnn)
 have⟨e3,h1,h⟩:=bs h
 have J0:∀Y a x,Y=e3->To M X 136 [(6,tv x),(0,ti p),(1,tsl QaK N)] [rows rI 3 Y a,own rVal 22 a x] K0:=by
  intro Y a x g;subst g;refine k0 <|Qf λK1 k1=>Qa 62 ?_;have⟨e4,h2,h⟩:=bs h;refine tJp (λ_=>[]) 773 (λp1=>[rows rI 3 p1 a]) 385 K1 (·=e4) (λp1 g=>?_) λJ1=>?_
  ·subst g;refine k1 <|Qf λK2 k2=>?_;refine Qa 62 ?_ (λ_=>by refine' pr 1 ?_;refine' rx (.u [1,0] rfl rfl (QnZ ud40 z0)) 1 ?_;exact rnn);have⟨e5,h3,h⟩:=bs h;refine tJp (λ_=>[]) 5 (λZ=>[rows rI 3 Z a]) 385 K2 (·=e5) (λZ g=>?_) λJ2=>?_
   ·subst g;refine k2 <|Qf λK3 k3=>?_;refine Qa 30 ?_ (λ_=>by refine' pr 1 ?_;refine' rx (.u [1,0] rfl rfl (QnZ ud40 z0)) 1 ?_;exact rnn);have⟨e6,h4,h⟩:=bs h;refine tJp (λ_=>[]) 5 (λ_=>[]) 127 K3 (.inl ·=e6) (λp3 g=>?_) λJ3=>?_
    ·subst g;simp only at h;refine k3 <|Qa 30 ?_;exact Qp h (·▸QaQ (tabX x a) [1,0] w)
    have J4:∀O c P,(.inr O)=e6->To M X 136 [(4,tv P),(5,tb O.1)] [rows rI 3 O.2 c,own rVal 22 c P] (Ret prog f26 M0 [] X (λv=>[own rVal 22 (tabU v) (tabV v),rows rI 3 r.1 (tabU v)]) (λv=>ttup [tv (tabV v),tb r.2]) .ret):=by
     intro O c P g;subst g;simp only at h;obtain rfl:=sj h;exact QaQ (tabX P c) [1,0] w
    refine Qk <|Qaf h4 (λs0=>[(123,ti s0)]) 82051 (λs0=>[]) 127 28 ?_;clear h;intro s0 o K4 h i k4;refine Qa 30 ?_;refine Qf λ_ k5=>Qo h (λ_ h=>?_) λ_ h=>?_
    ·refine Qu <|k5 <|Qf λ_ k6=>Qk <|Qa 116 ?_;refine Qf λ_ k7=>?_;have⟨r2,Q,_,h6,h⟩:=bs2 h;refine QJ 7426 ?_ (λ_=>by refine' pr 2 ?_;refine' rx (.u [1,0] rfl rfl (Qgi ud40 Qbh z1 z0 Q)) 0 ?_;refine' rx (.u [1,0] rfl rfl (Qhn Qbh z0 Q)) 1 ?_;refine' rx (.u [0] rfl rfl (QiU ud22 tok3 z1 z0 Q h6)) 0 ?_;refine' rx (.u [0] rfl rfl (QkR tok3 z0 Q h6)) 1 ?_;exact rnn);refine k7 <|QgJ 1 (λb0=>?_) λb0=>?_
     ·replace h:=QhV b0 h;refine Qa 142 ?_;refine Q1 (As'':=[rows rI 3 ([]:List (List Int)) ([]:List Value),own rVal 22 ([]:List Value) (.slice none 0 0),rows rI 3 Z a,own rVal 22 a x]) (λ_ _ H=>(H.nil rVal 22).rowsN (rI) 3) ?_;refine QaA ?_;refine Qan (λ_ _ H=>(H.pick [0,1]).Xk [0,1] rfl) ?_;exact Qhq J4 ([]:List Value) (.slice none 0 0) (i _ (sj h).symm) 6
     replace h:=QhW b0 h;refine Qu <|k6 <|QJ 108 ?_;exact Qx k4 ((sj h).symm) 131335
    refine QQ <|Qx J3 (i _ (sj h).symm) 16
   refine Qk <|Qaf h3 (λS=>[(68,ti S.1)]) 12664963 (λS=>[rows rI 3 S.2 a]) 385 60 ?_;clear h;intro S o K5 h i k8;refine Qa 62 ?_;refine Qf λ_ k9=>Qo h (λ_ h=>?_) λ_ h=>?_
   ·refine Qu <|k9 <|Qf λK6 a0=>Qk <|Qa 244 ?_;have⟨t1,_,h⟩:=bs h;refine QU [v1 2 (λv0=>own rI 3 t1 v0)] [3] 1016 λm1=>?_;refine Qf λ_ a1=>?_;have⟨r3,h7,h⟩:=bs h;refine QaG [v0 (own rI 3 (cpy t1 r3) (m1 2))] [6] 16262 (λm2=>?_) (λ_=>by refine' pr 3 ?_;refine' rx (.u [1,0] rfl rfl (Qgi ud40 Qbh z1 z0 h7)) 0 ?_;refine' rx (.u [1,0] rfl rfl (Qhn Qbh z0 h7)) 0 ?_;refine' rx (.e [0] [2] [3] rfl rfl rfl rfl (QAl (R:=rI) ud22 rfl tok3 z4 z0 h7)) 0 ?_;exact rnn);refine a1 ?_;refine Qa 8190 ?_ (λ_=>by refine' pr 1 ?_;refine' rx (.u [1,0] rfl rfl (QnZ ud40 z0)) 1 ?_;exact rnn);have⟨e7,h8,h⟩:=bs h;refine tJp (λ_=>[]) 16266 (λp5=>[rows rI 3 p5 a]) 385 K6 (·=e7) (λp5 g=>?_) λJ5=>?_
    ·subst g;refine a0 <|QJ 60 ?_;exact Qx k8 ((sj h).symm) 16875781
    refine Qk <|Qaf h8 (λT=>[(82,ti T.1)]) 34108096898 (λT=>[rows rI 3 T.2 a]) 65921 8078 ?_;clear h;intro T o K7 h i a2;refine Qa 2046 ?_;refine Qf λ_ a3=>Qo h (λ_ h=>?_) λ_ h=>?_
    ·refine Qu <|a3 <|Qf λK8 a4=>?_;have⟨p6,h9,h⟩:=bs h;refine tJ0 [] 16259 [rows rI 3 p6 a] 65921 K8 ?_ λJ6=>?_
     ·refine a4 <|QJ 2044 ?_;exact Qx a2 ((sj h).symm) 1306105879606625029
     replace h:=h9;clear h9;refine Qk <|Qf λ_ a5=>?_;have⟨r4,y,h⟩:=bs h;refine QJ 65456 ?_ (λ_=>by refine' pr 1 ?_;refine' rx (.u [1,0] rfl rfl (Qgi ud40 Qbh z2 z4 y)) 0 ?_;refine' rx (.u [1,0] rfl rfl (Qhn Qbh z0 y)) 2 ?_;exact rnn);refine a5 <|Qf λ_ a6=>Qf λ_ a7=>?_;have⟨r5,z,_,A,h⟩:=bs2 h;refine QJ 131040 ?_ (λ_=>by refine' pr 2 ?_;refine' rx (.u [0] rfl rfl (QiU ud22 tok3 z1 z0 z A)) 0 ?_;refine' rx (.u [0] rfl rfl (QkR tok3 z0 z A)) 1 ?_;exact rnn);refine a7 <|Qo h (λ_ h=>?_) λ_ h=>?_
     ·refine QQ ?_;obtain rfl:=sj h;exact QN J6 8176
     refine Qu <|a6 <|Qa 65518 ?_;have⟨e8,a8,h⟩:=bs h;refine tJp (λ_=>[]) 16263 (λp7=>[rows rI 3 p7 a]) 65921 K8 (·=e8) (λp7 g=>?_) λJ7=>?_
     ·subst g;obtain rfl:=sj h;exact QN J6 1022
     refine Qk <|Qaf a8 (λU=>[(94,ti U.1)]) 34101805442 (λU=>[rows rI 3 U.2 a]) 65921 32766 ?_;clear h;intro U o K9 h i a9;refine Qa 65534 ?_;refine Qf λ_ b1=>Qo h (λ_ h=>?_) λ_ h=>?_
     ·refine Qu <|b1 <|Qf λb2 b3=>Qk ?_;have⟨_,_,h⟩:=bs h;refine Qa 2097072 ?_;refine Qa 524284 ?_;have⟨p8,B,h⟩:=bs h;refine tJ0 [] 16261 [rows rI 3 p8 a] 16899 b2 ?_ λJ8=>?_
      ·refine b3 <|QJ 65532 ?_;refine Qan (λ_ _ H=>(H.pick [1,2,0,3,4,5,6,7,8,9,10,11,12,13]).Xk [2,0,1] rfl) ?_;exact Qx a9 ((sj h).symm) 32766
      replace h:=B;clear B;refine Qo h (λ_ h=>?_) λ_ h=>?_
      ·have⟨r6,d,_,C,_,D,_,E,h⟩:=bs4 h;have⟨s,k,h⟩:=bs h;refine QaG [v0 (rows rI 3 s a)] [18] 34357641218 (λm3=>?_) (λ_=>by refine' pr 2 ?_;refine' rx (.u [1,0] rfl rfl (Qgi ud40 Qbh z1 z0 d)) 0 ?_;refine' rx (.u [1,0] rfl rfl (Qhn Qbh z0 d)) 3 ?_;refine' rx (.u [0] rfl rfl (QiU ud22 tok3 z1 z0 d C)) 0 ?_;refine' rx (.u [0] rfl rfl (QkR tok3 z0 d C)) 2 ?_;refine' rx (.u [0] rfl rfl (QiU ud22 tok3 z1 z0 d D)) 0 ?_;refine' rx (.u [0] rfl rfl (QkR tok3 z0 d D)) 3 ?_;refine' rx (.u [0] rfl rfl (Qmm ud22 tok3 z12 z11 d E)) 0 ?_;refine' rx (.e [] [0] [3] rfl rfl rfl rfl (Qne tok3 z0 z1 d E k)) 0 ?_;exact rnn);obtain rfl:=sj h;exact QN J8 65532
      refine Qu ?_;obtain rfl:=sj h;refine Qan (λ_ _ H=>(H.pick [3,4,5,6,7,8,9,10,11,12,13,14,15,16]).Xk [1,2,0] rfl) ?_;exact QN J8 32766
     refine QQ <|Qx J7 (i _ (sj h).symm) 65408
    refine QQ <|Qan (λ_ _ H=>(H.pick [6,7,8,9]).Xk [0,1] rfl) ?_;exact Qx J5 (i _ (sj h).symm) 30
   refine QQ <|Qx J2 (i _ (sj h).symm) 16
  refine Qk <|Qaf h2 (λV=>[(41,ti V.1)]) 1621115266 (λV=>[rows rI 3 V.2 a]) 385 62 ?_;clear h;intro V o c1 h i b4;refine Qa 126 ?_;refine Qf λ_ b5=>Qo h (λ_ h=>?_) λ_ h=>?_
  ·refine Qu <|b5 <|Qf λ_ b6=>Qk ?_;have⟨t2,_,h⟩:=bs h;refine QU [v1 2 (λv0=>box (QaK.cs (Qaj.mk (0:Int) (0:Int) (0:Int))) v0),v1 2 (λv0=>box (QaK.cs t2) v0)] [3,4] 1000 λm4=>?_;refine Q1 (λ_ _ H=>(((H.Xk [2,0,1] rfl).Xl 0 rfl).add 0 rfl (λ_ _ _ h=>h.2)).pick [0,3,4,5,6,7]) ?_;have⟨r7,e,_,F,_,I,t,l,h⟩:=bs4 h;refine QaG [v0 (rows rI 3 t a)] [21] 130023682 (λm5=>?_) (λ_=>by refine' pr 3 ?_;refine' rx (.u [1,0] rfl rfl (Qgi ud40 Qbh z2 z0 e)) 0 ?_;refine' rx (.u [1,0] rfl rfl (Qhn Qbh z0 e)) 5 ?_;refine' rx (.u [1,0] rfl rfl (Qgi ud40 Qbh z2 z0 e)) 0 ?_;refine' rx (.u [1,0] rfl rfl (Qhn Qbh z0 e)) 2 ?_;refine' rx (.u [0] rfl rfl (QiU ud22 tok3 z2 z0 e F)) 0 ?_;refine' rx (.u [0] rfl rfl (QkR tok3 z0 e F)) 3 ?_;refine' rx (.u [0] rfl rfl (Qmm ud22 tok3 z14 z12 e I)) 0 ?_;refine' rx (.e [] [0] [2] rfl rfl rfl rfl (Qne tok3 z0 z1 e I l)) 0 ?_;exact rnn);refine b6 <|QJ 508 ?_;refine Qan (λ_ _ H=>(H.pick [3,4,0,5,6]).Xk [1,0] rfl) ?_;exact Qx b4 ((sj h).symm) 62
  refine QQ <|Qx J1 (i _ (sj h).symm) 96
 refine Qk <|QpX h1 (λj b q=>[(22,ti j.1),(6,tv q)]) 2162180227 (λj b q=>[rows rI 3 j.2 b,own rVal 22 b q]) 129 (replicate ((i64.wrap (p+1))).toNat nilV) (m0 2) 236 ?_;clear h;intro j b q o c2 h i b7;refine Qa 126 ?_;refine Qf λ_ b8=>Qo h (λ_ h=>?_) λ_ h=>?_
 ·refine Qu <|b8 <|Qf λ_ b9=>Qk <|Qa 500 ?_;refine Qf λ_ c0=>?_;have⟨t3,_,K,f,h⟩:=bs2 h;refine QaG [v1 5 (λv0=>own rI 3 t3 v0),v1 5 (λv0=>own rVal 22 (b.set (j.1).toNat v0) q)] [6,8] 16194 (λW=>?_) (λ_=>by refine' pr 6 ?_;refine' rx (.u [1,0] rfl rfl (QvW ud40 Qbh z5 z4 f)) 0 ?_;refine' rx (.e [0,2] [1] [3] rfl rfl rfl rfl (QCP (e1:=22) (e2:=3) Qbh z0 z1 f)) 0 ?_;exact rnn);refine Qan (As'':=[rows rI 3 K (b.set (j.1).toNat (W 5)),own rVal 22 (b.set (j.1).toNat (W 5)) q]) (λ_ _ H=>(H.Xk [1,0,2] rfl).put (j.1) f) ?_;refine c0 ?_;have⟨r8,m,_,L,u,n,h⟩:=bs3 h;refine QaG [v0 (rows rI 3 u (b.set (j.1).toNat (W 5)))] [7] 31874 (λm7=>?_) (λ_=>by refine' pr 2 ?_;refine' rx (.u [1,0] rfl rfl (Qgi ud40 Qbh z1 z0 m)) 0 ?_;refine' rx (.u [1,0] rfl rfl (Qhn Qbh z0 m)) 1 ?_;refine' rx (.u [0] rfl rfl (Qmm ud22 tok3 z1 z0 m L)) 0 ?_;refine' rx (.e [] [0] [2] rfl rfl rfl rfl (Qne tok3 z0 .k m L n)) 0 ?_;exact rnn);refine b9 <|QJ 508 ?_;refine Qan (λ_ _ H=>(H.pick [3,0,4,5,6]).Xk [1,0] rfl) ?_;exact Qhq b7 (b.set (j.1).toNat (W 5)) q ((sj h).symm) 62
 refine QQ <|Qhq J0 b q (i _ (sj h).symm) 112
def QdI (b:Int) (d:(List QH)):Option ((List (List Int))×Int):=(QgZ b d).bind λa=>(if (a.2 !=0)=true then (some (([]:List (List Int)),a.2)) else (Qf5 b a.1).bind λc=>(if (!c.2)=true then (some (([]:List (List Int)),(14:Int))) else (some (c.1,(0:Int)))))
instance Qp6:Spc2 prog 9 QdI (λb c=>[ti b,tsl Qah c]) (λr=>ttup [tsl (rSl rI) r.1,ti r.2]):=.mk λ{b c r} h=>by
 unfold QdI at h
 refine Fe func9 ntmps9 λe M f a=>?_
 refine Qa 24 ?_
 have⟨_,h0,h⟩:=bs h
 refine Qa 896 ?_ (λ_=>by refine' pr 2 ?_;refine' rx (.p rfl (QO Qyd ((Qp5.ok h0).ro QCN) (.cons (.of z1)<|.cons (.of z0)<|.nil))) 5 ?_;exact rnn)
 refine tIfs h 60 (λ_ h=>?_) λ_ h=>?_
 ·refine Qa 12 ?_
  exact Qp h (·▸Qn a)
 have⟨_,d,h⟩:=bs h
 refine Qa 384 ?_ (λ_=>by refine' pr 2 ?_;refine' rx (.p rfl (QO Qye ((Qo5.ok d).roT QAm) (.cons (.of z1)<|.cons (.of z0)<|.nil))) 5 ?_;exact rnn)
 refine tIfs h 12 (λ_ h=>?_) λ_ h=>?_
 ·refine Qa 6 ?_
  exact Qp h (·▸Qn a)
 refine Qa 12 ?_
 exact Qp h (·▸Qn a)
def Qd8 (a:Q2) (c:Int):Option (Int×Q2):=(idx a.w c).bind λp=>(if ((p.length:Int)==0)=true then (some ((0:Int),(Q2.mk a.x a.old a.w))) else (Qhb a.x c).bind λg=>(QdI (g.1.length:Int) g.2).bind λk=>(if (k.2 !=0)=true then (some ((14:Int),(Q2.mk a.x a.old a.w))) else (idx a.w c).bind λq=>(Qr (λ(s0:Int×List (List (List Int)))=>((if (decide (s0.1<(q.length:Int)))=true then (idx s0.2 c).bind λr=>(idx r s0.1).bind λB=>(Qr (λ(b:Int×List Int×List (List (List Int)))=>((if (decide (b.1<(g.1.length:Int)))=true then (idx g.1 b.1).bind λi=>(Qg0 k.1 b.2.1).bind λh=>(if (h.2.2 !=0)=true then (some (.inr (.inr ((14:Int),b.2.2)))) else (idx a.old c).bind λs=>((if (decide (s0.1<(s.length:Int)))=true then (idx a.old c).bind λt=>(idx t s0.1).bind λu=>(idx u i).bind λv=>(QeD v h.1 h.2.1).bind λw=>(some w) else (some h.1))).bind λj=>(idx b.2.2 c).bind λl=>(idx l s0.1).bind λm=>(idx m i).bind λC=>(setAt m i j).bind λd=>(setAt l s0.1 d).bind λe=>(setAt b.2.2 c e).bind λf=>(rm (b.2.1.length+[j].length)).bind λ_=>(some (.inl ((i64.wrap (b.1+1)),(b.2.1++[j]),f)))) else (some (.inr (.inl b.2.2)))):Option ((Int×List Int×List (List (List Int)))⊕((List (List (List Int)))⊕(Int×List (List (List Int))))))) ((0:Int),([]:List Int),s0.2)).bind λx=>(match x with | .inl y=>(some (.inl ((i64.wrap (s0.1+1)),y))) | .inr n=>(some (.inr (.inr (n.1,n.2))))) else (some (.inr (.inl s0.2)))):Option ((Int×List (List (List Int)))⊕((List (List (List Int)))⊕(Int×List (List (List Int))))))) ((0:Int),a.w)).bind λz=>(match z with | .inl A=>(some ((0:Int),(Q2.mk a.x a.old A))) | .inr o=>(some (o.1,(Q2.mk a.x a.old o.2))))))
instance QmE:SpcS prog 20 (∀{m a i q r},Qd8 i q=some r->FnOk prog 20 [tv m,ti q] [bxM i.x i.old (dh a) m,deep (dRow (dOwn rI 3) 22) 40 i.w a] (λ_=>[bxM (r.2).x (r.2).old (dh a) m,deep (dRow (dOwn rI 3) 22) 40 (r.2).w a]) (λ_=>ti r.1)):=.mk λ{m a i q r} h=>by
 unfold Qd8 at h
 refine Fe func20 ntmps20 λM0 M w0 b=>?_
 refine Qa 12 ?_
 refine Qf λ_ Q=>?_
 refine Qf λ_ R=>?_
 have⟨r2,h0,h⟩:=bs h
 refine QJ 3600 ?_ (λ_=>by refine' pr 5 ?_;refine' rx (.u [1] rfl rfl (QaV ud29 QbR z1 z0 h0)) 0 ?_;refine' rx (.u [1] rfl rfl (Qa7 Qc0 z0 h0)) 0 ?_;refine' rx (.u [1] rfl rfl (.part (Q9 h0 .refl) (Qg9 ud40 z0))) 1 ?_;exact rnn)
 refine R ?_
 refine QgJ 1 (λs=>?_) λs=>?_
 ·replace h:=QhV s h
  refine Qa 22 ?_
  exact Qp h (·▸QaQ undef [0,1] b)
 replace h:=QhW s h
 refine Qu ?_
 refine Q ?_
 have⟨_,_,h⟩:=bs h
 refine Qa 56320 ?_
 have⟨_,_,h⟩:=bs h
 refine Qa 30464 ?_
 refine tIfs h 492 (λ_ h=>?_) λ_ h=>?_
 ·refine Qa 98 ?_
  exact Qp h (·▸QaQ undef [0,1] b)
 refine Qf λS T=>?_
 refine Qf λ_ U=>?_
 have⟨r3,t,h⟩:=bs h
 refine QJ 64400 ?_ (λ_=>by refine' pr 5 ?_;refine' rx (.u [1] rfl rfl (QaV ud29 QbR z1 z0 t)) 0 ?_;refine' rx (.u [1] rfl rfl (Qa7 Qc0 z0 t)) 0 ?_;refine' rx (.u [1] rfl rfl (.part (Q9 t .refl) (Qg9 ud40 z0))) 1 ?_;exact rnn)
 refine U ?_
 have⟨z,V,h⟩:=bs h
 refine tJp (λ_=>[]) 9 (λA=>[deep (dRow (dOwn rI 3) 22) 40 A a]) 130 S (.inl ·=z) (λA c=>?_) λW=>?_
 ·subst c
  simp only at h
  refine T ?_
  refine Qa 6 ?_
  exact Qp h (·▸QaQ undef [0,1] b)
 refine tJr (λn=>[(4,ti n.1)]) 1153 (λn=>[deep (dRow (dOwn rI 3) 22) 40 n.2 a]) 130 (.inr ·=z) (λn c=>?_) λX=>?_
 ·subst c
  simp only at h
  obtain rfl:=sj h
  exact QaQ undef [0,1] b
 refine Qk ?_
 refine Qaf V (λs0=>[(53,ti s0.1)]) 44291594404355 (λs0=>[deep (dRow (dOwn rI 3) 22) 40 s0.2 a]) 130 892 ?_
 clear h
 intro s0 o K1 h j Y
 refine Qa 510 ?_
 refine Qf λ_ Z=>?_
 refine Qo h (λ_ h=>?_) λ_ h=>?_
 ·refine Qu ?_
  refine Z ?_
  refine Qf λK2 k6=>?_
  refine Qk ?_
  refine Qf λ_ k7=>?_
  have⟨r4,B,r5,C,h⟩:=bs2 h
  refine QJ 16304 ?_ (λ_=>by refine' pr 1 ?_;refine' rx (.u [1] rfl rfl (.part (Q9 B .refl) (QaV ud40 Qci z2 z4 C))) 0 ?_;refine' rx (.u [1] rfl rfl (.part (Q9 B .refl) (Qa7 Qbh z0 C))) 2 ?_;exact rnn)
  refine k7 ?_
  refine Qa 2046 ?_
  refine Q1 (λ_ _ H=>H.nil (rI) 3) ?_
  refine Qa 16382 ?_
  have⟨D,h5,h⟩:=bs h
  refine tJp (λ_=>[]) 16264 (λE=>[deep (dRow (dOwn rI 3) 22) 40 E a]) 131 K2 (.inl ·=D) (λE c=>?_) λJ2=>?_
  ·subst c
   simp only at h
   refine k6 ?_
   refine QJ 508 ?_
   exact Qx Y ((sj h).symm) 61987669181189
  refine tJr (λp=>[(4,ti p.1)]) 1665 (λp=>[deep (dRow (dOwn rI 3) 22) 40 p.2 a]) 131 (.inr ·=D) (λp c=>?_) λJ3=>?_
  ·subst c
   simp only at h
   exact Qx X (j _ (sj h).symm) 6
  refine Qk ?_
  refine QaU h5 (λd k=>[(60,ti d.1),(11,tv k)]) 4365299499394 (λd k=>[own rI 3 d.2.1 k,deep (dRow (dOwn rI 3) 22) 40 d.2.2 a]) 16769 (.slice none 0 0) 16382 ?_
  clear h
  intro d k o K3 h j k8
  refine Qa 32766 ?_
  refine Qf λ_ k9=>?_
  refine Qo h (λ_ h=>?_) λ_ h=>?_
  ·refine Qu ?_
   refine k9 ?_
   refine Qf λ_ u=>?_
   refine Qk ?_
   have⟨_,_,h⟩:=bs h
   refine Qa 262120 ?_
   have⟨_,h6,h⟩:=bs h
   refine Qa 33554180 ?_ (λ_=>by refine' pr 2 ?_;refine' rx (.u [0] rfl rfl (Qb2 [own rI 3 d.2.1 k] Qyk (Qp7.ok h6) (.cons (.of z1)<|.cons (.own z0 (.head _))<|.nil) (λ_=>(Qsk (QiK Qa8 (QiK Qa8 (QiK Qa8 Qsl))))) (λ_=>Qib (x:=undef)))) 7 ?_;exact rnn)
   refine tIfs h 2097084 (λ_ h=>?_) λ_ h=>?_
   ·refine Qa 263178 ?_
    refine QaA ?_
    refine Qan (λ_ _ H=>(H.pick [0,3]).Xk [1,2] rfl) ?_
    exact Qx J3 (j _ (sj h).symm) 6
   refine Qa 2097140 ?_
   refine Qf λK4 v=>?_
   have⟨_,_,h⟩:=bs h
   refine Qa 536869888 ?_
   have⟨F,I,h⟩:=bs h
   refine tJ0 [(17,ti F)] 2081665 [] 127 K4 ?_ λK=>?_
   ·refine v ?_
    refine Qf λ_ w=>?_
    have⟨r6,L,r7,N,r8,y,O,e,h⟩:=bs4 h
    have⟨P,f,l,g,h⟩:=bs2 h
    refine QaG [v0 (deep (dRow (dOwn rI 3) 22) 40 l a)] [5] 1048480 (λm0=>?_) (λ_=>by refine' pr 3 ?_;refine' rx (.u [2] rfl rfl (.part (Q9 L (Q9 N .refl)) (Qaz ud22 tok3 z2 z1 y))) 0 ?_;refine' rx (.e [] [2] [3] rfl rfl rfl rfl (.focus (QbC L g (QbC N f (.refl λ_=>Iff.rfl))) (QbP tok3 z0 z1 e))) 0 ?_;exact rnn)
    refine w ?_
    have⟨_,_,h⟩:=bs h
    refine QaG [v1 3 (λv0=>own rI 3 (d.2.1++[F]) v0)] [4] 524208 λm1=>?_
    refine u ?_
    refine QJ 65532 ?_
    refine Qan (λ_ _ H=>(H.pick [3,4,0,2,5,6,7,8,9,10,11,12,13]).Xk [2,0,1] rfl) ?_
    exact Q7 k8 (m1 3) ((sj h).symm) 16382
   replace h:=I
   clear I
   refine Qo h (λ_ h=>?_) λ_ h=>?_
   ·have⟨_,_,_,_,_,_,_,_,h⟩:=bs4 h
    refine QJ 68715937792 ?_
    obtain rfl:=sj h
    exact QN K 131066
   refine Qu ?_
   obtain rfl:=sj h
   exact QN K 1048516
  refine QQ ?_
  refine Qan (λ_ _ H=>(H.pick [7,8,9,10,11,12,13]).Xk [1,2] rfl) ?_
  exact Qx J2 (j _ (sj h).symm) 254
 refine QQ ?_
 exact Qx W (j _ (sj h).symm) 128
