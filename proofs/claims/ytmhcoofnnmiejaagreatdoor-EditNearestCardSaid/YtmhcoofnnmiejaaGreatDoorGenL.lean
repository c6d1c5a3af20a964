/- The walk. No condition. -/
import Derived.Test.YtmhcoofnnmiejaaGreatDoorGenE
import Derived.Test.YtmhcoofnnmiejaaGreatDoorGenG
set_option linter.all false
open List Go.Proofs.Tryz Go.IntKind
namespace Go.Proofs.YtmhcoofnnmiejaaGreatDoor
noncomputable section
open Go.Sim
set_option maxRecDepth 100000
set_option maxHeartbeats 4000000
theorem QoB {g:(List QK)->(List Bool)->(List Int)->(List Int)->Option ((List Int))} (e:∀(i:(List QK)) (b:(List Bool)) (c:(List Int)) (d:(List Int)) (r:(List Int)),g i b c d=some r->FnOk prog 66 [tsl Qap i,tsl Qag b,tsl rI c,tsl rI d] [] (λ_=>[]) (λ_=>tsl rI r)) {i:(List QK)} {b:(List Bool)} {c:(List Int)} {d:(List Int)} {r:(List Int)} (h:Qfx g i b c d=some r):FnOk prog 66 [tsl Qap i,tsl Qag b,tsl rI c,tsl rI d] [] (λ_=>[]) (λ_=>tsl rI r):=by
 unfold Qfx at h;refine fe func66 ntmps66 λZ M n a f H=>?_;refine sr mx [] H (λ_=>.o (Ql (.nilsl (R:=rI)))<|.n) λ_ a w H=>?_;have H:=H.to [1,2,3,4] [_,_,_,_] [] rfl rfl;refine wp_seq_k (λ_ q=>?_);refine sr mx [] H (λ_=>.q 3 rfl<|.o (QaW ud22 z0)<|.q 4 rfl<|.o (QaW ud22 z0)<|.o (Qd0 z2 z0)<|.n) λ_ a w H=>?_;have H:=H.to [4,5,6,7,8] [_,_,_,_,_] [] rfl rfl;refine wi H h (λs h=>?_) (λs h=>?_)
 ·refine wp_seq_k (λ_ t=>?_);have⟨u0,h0,h⟩:=bs h;refine wr mx [v1 0 (λv0=>own rI 3 ([]:List Int) v0)] H (λ_=>.m [] [0] rfl rfl rfl (Qg5 (R:=rI) (us:=([]:List Int)) ud22 tok3 (.nil _) rfl (leb rfl) (leb rfl))<|.q 5 rfl<|.e [] [0] [] rfl rfl rfl rfl (.roE (Qbr (R:=rI) ud22 tok3 (leb rfl) z1 z0 h0))<|.o (Ql z0)<|.n) λ_ a w H=>?_;have H:=H.t1_0 [3];refine t _ _ ?_;exact r0 h (·▸r1 f H (.tmp z0 .nil))
 refine wp_skip (q _ _ ?_);have⟨j,u,h⟩:=bs h;refine sr mx [] H (λ_=>.q 1 rfl<|.q 5 rfl<|.o (QO QyE (QrP.ok u) (.cons (.of z1)<|.cons (.of z0)<|.nil))<|.q 0 rfl<|.o (Qas z0 rfl)<|.o (Qas z1 rfl)<|.o (Ql z1)<|.o (Ql z1)<|.n) λ_ a w H=>?_;have H:=H.to [6,7,9,10,11,12] [_,_,_,_,_,_] [] rfl rfl;refine wp_seq_k (λ_ v=>?_);refine sr mx [] H (λ_=>.q 0 rfl<|.q 2 rfl<|.o (Qia z1 z0)<|.n) λ_ a w H=>?_;have H:=H.t7_0 [2,3,4,5,6,7,8];refine wi H h (λx h=>?_) (λx h=>?_)
 ·refine sr mx [] H (λ_=>.o (Ql (.nilsl (R:=rI)))<|.n) λ_ a w H=>?_;have H:=H.t1_0 [0];exact r0 h (·▸r1 f H (.tmp z0 .nil))
 refine wp_skip (v _ _ ?_);refine wp_seq_k (λ_ y=>?_);have⟨t1,z,h⟩:=bs h;refine sr mx [] H (λ_=>.q 4 rfl<|.q 7 rfl<|.o (QaW ud22 z0)<|.o (Qam underlying111 tok4 z2 z0 z)<|.o (Q4 tok4 z0)<|.o (QkL z0)<|.n) λ_ a w H=>?_;have H:=H.t7_0 [5,7,8,9,10,11,12];refine wi H h (λA h=>?_) (λA h=>?_)
 ·have⟨B,C,h⟩:=bs h;refine sr mx [] H (λ_=>.q 5 rfl<|.q 7 rfl<|.o (QaW ud22 z0)<|.o (Qam ud22 tok3 z2 z0 C)<|.o (Q4 tok3 z0)<|.q 6 rfl<|.o (Qsi z1 z0)<|.q 9 rfl<|.o (QkN z1 z0)<|.o (Ql z0)<|.n) λ_ a w H=>?_;have H:=H.to [9,13,14,15,16] [_,_,_,_,_] [] rfl rfl;refine wp_seq_k (λ_ D=>?_);have⟨u1,E,u2,F,t3,I,h⟩:=bs3 h;refine wr mx [v1 3 (λv0=>own rI 3 ([]:List Int) v0),v1 5 (λv0=>own rI 3 (([]:List Int)++d) v0)] H (λ_=>.q 1 rfl<|.q 3 rfl<|.q 5 rfl<|.m [] [0] rfl rfl rfl (Qg5 (R:=rI) (us:=([]:List Int)) ud22 tok3 (.nil _) rfl (leb rfl) (leb rfl))<|.q 8 rfl<|.e [] [0] [1] rfl rfl rfl rfl (Qbr (R:=rI) ud22 tok3 (leb rfl) z1 z0 E)<|.q 6 rfl<|.o (Qaw (R:=rI) (us:=[(imin (imax B j.1) j.2)]) ud22 tok3 (.cons z0<|.nil _) rfl (leb rfl))<|.e [] [1] [] rfl rfl rfl rfl (.roE (Qbr (R:=rI) ud22 tok3 (leb rfl) z2 z0 F))<|.o (QO Qs1 (e _ _ _ _ _ I) (.cons (.of z8)<|.cons (.of z7)<|.cons (.of z6)<|.cons (.of z0)<|.nil))<|.o (Ql z0)<|.n) λ_ a w H=>?_;have H:=H.t1_0 [10];refine D _ _ ?_;exact r0 h (·▸r1 f H (.tmp z0 .nil))
 refine wp_skip (y _ _ ?_);refine sr mx [] H (λ_=>.o (Ql (.nilsl (R:=rI)))<|.n) λ_ a w H=>?_;have H:=H.t7_0 [0,2,3,4,5,6,7];refine wp_seq_k (λK L=>?_);refine sr mx [] H (λ_=>.q 1 rfl<|.o (Ql z0)<|.n) λ_ a w H=>?_;have H:=H.t7_0 [1,2,4,5,6,7,8];have⟨N,O,h⟩:=bs h;have P:∀(k:(List Int)) a w,k=N->St M n 76 [(12,tsl rI k)] [] a w->K a w:=by
  intro k a w Q H;subst Q;refine L _ _ ?_;refine sr mx [] H (λ_=>.q 0 rfl<|.o (Ql z0)<|.n) λ_ a w H=>?_;have H:=H.t1_0 [1];exact r0 h (·▸r1 f H (.tmp z0 .nil))
 refine wp_block ?_;refine QbU _ (λ(s0:Int×(List Int)) a w=>St M n 76 [(13,ti s0.1),(12,tsl rI s0.2),(10,ti j.2),(0,tsl Qap i),(1,tsl Qag b),(2,tsl rI c),(3,tsl rI d)] [] a w) _ _ O (H.pick [0,1,2,3,4,5,6]) ?_;clear h;intro s0 o a w K1 p h S T;have H:=p;clear p;refine wp_seq_k (λ_ U=>?_);refine sr mx [] H (λ_=>.q 0 rfl<|.q 3 rfl<|.o (Qpp z1 z0)<|.n) λ_ a w H=>?_;have H:=H.to [2,3,4,5,6,7,8,9] [_,_,_,_,_,_,_,_] [] rfl rfl;refine wi H h (λV h=>?_) (λV h=>?_)
 ·refine wp_skip (U _ _ ?_);refine wp_seq_k (λ_ W=>?_);refine wp_block ?_;have⟨u3,X,u4,Y,t4,l,t5,m,h⟩:=bs4 h;refine wr mx [v1 5 (λv0=>own rI 3 ([]:List Int) v0),v1 7 (λv0=>own rI 3 (([]:List Int)++d) v0)] H (λ_=>.q 6 rfl<|.q 3 rfl<|.q 6 rfl<|.q 8 rfl<|.q 10 rfl<|.m [] [0] rfl rfl rfl (Qg5 (R:=rI) (us:=([]:List Int)) ud22 tok3 (.nil _) rfl (leb rfl) (leb rfl))<|.q 13 rfl<|.e [] [0] [1] rfl rfl rfl rfl (Qbr (R:=rI) ud22 tok3 (leb rfl) z1 z0 X)<|.q 9 rfl<|.o (Qaw (R:=rI) (us:=[s0.1]) ud22 tok3 (.cons z0<|.nil _) rfl (leb rfl))<|.e [] [1] [] rfl rfl rfl rfl (.roE (Qbr (R:=rI) ud22 tok3 (leb rfl) z2 z0 Y))<|.o (QO Qs1 (e _ _ _ _ _ l) (.cons (.of z8)<|.cons (.of z7)<|.cons (.of z6)<|.cons (.of z0)<|.nil))<|.o (QO QyF (QpZ.ok m) (.cons (.of z11)<|.cons (.of z10)<|.cons (.of z0)<|.nil))<|.o (Ql z0)<|.n) λ_ a w H=>?_;have H:=H.t7_0 [13,15,16,17,18,19,20];refine W _ _ ?_;refine wr mx [] H (λ_=>.q 1 rfl<|.o (Qbg z0 .k)<|.o (Ql z0)<|.n) λ_ a w H=>?_;have H:=H.t7_0 [2,3,4,5,6,7,8];exact T _ _ _ (sj h).symm (H.pick [0,1,2,3,4,5,6])
 refine wp_exit ?_;exact P _ _ _ (S _ (sj h).symm) (H.pick [2])
theorem QjV:∀(n:Nat) (d:(List QK)) (a:(List Bool)) (b:(List Int)) (c:(List Int)) (r:(List Int)),Qee n d a b c=some r->FnOk prog 66 [tsl Qap d,tsl Qag a,tsl rI b,tsl rI c] [] (λ_=>[]) (λ_=>tsl rI r)
 | 0,_,_,_,_,r,h=>by cases h
 | n+1,d,a,b,c,r,h=>QoB (λd a b c r h=>QjV n d a b c r h) h
def Qh1 (d:(List QK)) (b:(List Bool)) (a:(List Int)) (c:(List Int)):Option ((List Int)):=Qee (a.length+2) d b a c
theorem Qo3 {d:(List QK)} {a:(List Bool)} {b:(List Int)} {c:(List Int)} {r:(List Int)} (h:Qh1 d a b c=some r):FnOk prog 66 [tsl Qap d,tsl Qag a,tsl rI b,tsl rI c] [] (λ_=>[]) (λ_=>tsl rI r):=QjV _ _ _ _ _ _ h
instance :Spc4 prog 66 (λ(d:(List QK)) (a:(List Bool)) (b:(List Int)) (c:(List Int))=>Qh1 d a b c) (λ(d:(List QK)) (a:(List Bool)) (b:(List Int)) (c:(List Int))=>[tsl Qap d,tsl Qag a,tsl rI b,tsl rI c]) (λ(r:(List Int))=>tsl rI r):=⟨λh=>Qo3 h⟩
def Qi3 (g:Qc) (a:(List Int)) (f:(List Int)):Option ((List (List (List Int)))):=(mk (a.length:Int) ([]:(List (List Int)))).bind λm=>(Qr (λ(s0:Int×Int×List (List (List Int)))=>(if (decide (s0.1<(a.length:Int)))=true then (Qr (λ(d:Int×Int×List (List (List Int)))=>((idx a s0.1).bind λn=>(if (decide (d.1<n))=true then (Qr (λ(b:Int×Int×List Int)=>((idx g.Xa s0.1).bind λo=>(if (decide (b.1<(o.Xb.length:Int)))=true then (idx g.Xa s0.1).bind λp=>(idx p.Xb b.1).bind λc=>(Qd3 f b.2.1 (i64.wrap ((imin (i64.wrap (c.Hi - c.Lo)) 1000)+6))).bind λq=>((if (c.Xi==0)=true then (idx a s0.1).bind λr=>(Qd3 f b.2.1 (i64.wrap (r+3))).bind λs=>(some (i64.wrap ((i64.wrap (c.Lo - 1))+s))) else ((if (c.Xi==1)=true then (Qfw g s0.1 b.1).bind λt=>(idx d.2.2 t).bind λu=>(Qd3 f b.2.1 (imax 1 (u.length:Int))).bind λv=>(some v) else ((if (c.Xi==3)=true then (some (c.Xi==3)) else (some (c.Xi==5)))).bind λw=>((if w=true then (Qd3 f b.2.1 6).bind λh=>(some h) else (some (i64.wrap ((i64.wrap (c.Lo - 2))+q))))).bind λx=>(some x))).bind λy=>(some y))).bind λi=>(rm (b.2.2.length+[i].length)).bind λ_=>(some (.inl ((i64.wrap (b.1+1)),(i64.wrap (b.2.1+1)),(b.2.2++[i])))) else (some (.inr (b.2.1,b.2.2)))))) ((0:Int),d.2.1,([]:List Int))).bind λj=>(idx d.2.2 s0.1).bind λk=>(rm (k.length+1)).bind λ_=>(setAt d.2.2 s0.1 (k++[j.2])).bind λe=>(some (.inl ((i64.wrap (d.1+1)),j.1,e))) else (some (.inr (d.2.1,d.2.2)))))) ((0:Int),s0.2.1,s0.2.2)).bind λl=>(some (.inl ((i64.wrap (s0.1+1)),l.1,l.2))) else (some (.inr s0.2.2)))) ((0:Int),(0:Int),m)).bind λz=>(some z)
instance Qs9:SpcS prog 13 (∀{s a t r},Qi3 s a t=some r->FnOk prog 13 [Qb.ty s,tsl rI a,tsl rI t] [] (λv=>[deep (dRow (dOwn rI 3) 22) 40 r v]) (λv=>tv (dh v))):=.mk λ{s a t r} h=>by
 unfold Qi3 at h
 refine Fe func13 ntmps13 λM0 M E F=>?_
 refine Qa 50 ?_
 have⟨t0,h0,h⟩:=bs h
 refine QU [v1 2 (λv0=>own rVal 40 (replicate ((a.length:Int)).toNat nilV) v0)] [3] 240 (λQ=>?_) (λ_=>by refine' pr 2 ?_;refine' rx (.m [] [0] rfl rfl rfl (Qmn (α:=(List Int)) ud29 Qc0 (leb rfl) z0 z0 h0)) 0 ?_;refine' rx (.ud (f:=λv=>tv (dh (dmk v []))) 2 rfl [] rfl rfl (Ql z0)) 0 ?_;exact rnn)
 refine Q1 (As'':=[deep (dRow (dOwn rI 3) 22) 40 t0 (dmk (Q 2) [])]) (λ_ _ H=>H.makeD Qsw rfl rfl h0) ?_
 refine Qa 62 ?_
 refine Qf λK0 k0=>?_
 refine Qa 126 ?_
 have⟨e3,h1,h⟩:=bs h
 have J0:∀I A,I=e3->To M E 119 [(7,tv (dh A))] [deep (dRow (dOwn rI 3) 22) 40 I A] K0:=by
  intro I A u;subst u;refine k0 <|Qa 14 ?_;exact Qp h (·▸QaQ A [0] F)
 refine Qk <|QaU h1 (λs0 n=>[(9,ti s0.1),(8,ti s0.2.1),(7,tv (dh n))]) 34101805185 (λs0 n=>[deep (dRow (dOwn rI 3) 22) 40 s0.2.2 n]) 1 (dmk (Q 2) []) 126 ?_;clear h;intro s0 n o K1 h w k1;refine Qf λ_ k2=>Qa 2032 ?_;refine Qo h (λ_ h=>?_) λ_ h=>?_
 ·refine Qu <|k2 <|Qf λK2 k3=>Qk <|Qa 506 ?_;have⟨e4,h2,h⟩:=bs h;refine tJq (λC x=>[(8,ti C.1),(7,tv (dh x))]) 34103902339 (λC x=>[deep (dRow (dOwn rI 3) 22) 40 C.2 x]) 1 K2 (·=e4) (λC x u=>?_) λJ1=>?_
  ·subst u;refine k3 <|QJ 504 ?_;exact Q7 k1 x ((sj h).symm) 126
  refine Qk <|QaU h2 (λc b=>[(10,ti c.1),(8,ti c.2.1),(7,tv (dh b))]) 4365299499393 (λc b=>[deep (dRow (dOwn rI 3) 22) 40 c.2.2 b]) 1 n 254 ?_;clear h;intro c b o K3 h w k4;refine Qf λ_ k5=>?_;have⟨_,_,h⟩:=bs h;refine Qa 16320 ?_;refine Qo h (λ_ h=>?_) λ_ h=>?_
  ·refine Qu <|k5 <|Qf λ_ k6=>Qk <|Qa 1018 ?_;refine Q1 (λ_ _ H=>H.nil (rI) 3) ?_;refine Qf λK4 k7=>Qa 1022 ?_;have⟨e5,h3,h⟩:=bs h;refine tJq (λj d=>[(11,tv d),(8,ti j.1)]) 4365568000513 (λj d=>[own rI 3 j.2 d]) 385 K4 (·=e5) (λj d u=>?_) λJ2=>?_
   ·subst u;refine k7 ?_;have⟨i,p,h⟩:=bs h;refine Q1 (As'':=[deep (dOwn rI 3) 22 i (ds b (s0.1).toNat),QbQ (dRow (dOwn rI 3) 22) 40 c.2.2 b (some (s0.1).toNat),own rI 3 j.2 d]) (λ_ _ H=>(H.Xk [1,0] rfl).openD p) ?_;have⟨_,h5,m,k,h⟩:=bs2 h;refine QaG [v1 8 (λv0=>deep (dOwn rI 3) 22 (i++[j.2]) (Qec i.length (ds b (s0.1).toNat) v0 (dmk d []))),v1 8 (λv0=>QbQ (dRow (dOwn rI 3) 22) 40 c.2.2 (dset (c.2.2).length b (s0.1).toNat (Qec i.length (ds b (s0.1).toNat) v0 (dmk d []))) (some (s0.1).toNat))] [9,11] 520202 (λq=>?_) (λq=>by refine' pr 4 ?_;refine' rx (.u [1] rfl rfl (QaV ud29 QbR z1 z0 p)) 0 ?_;refine' rx (.u [1] rfl rfl (Qa7 Qc0 z0 p)) 1 ?_;refine' rx (.u [2] rfl rfl (Qxj (R:=rI) (e:=3) (xs:=j.2) ud40 Qbh z0)) 0 ?_;refine' rx (.e [] [0,2] [3] rfl rfl rfl rfl (Qsx (D:=(dOwn rI 3)) (y:=j.2) (gy:=(dmk d [])) ud40 Qci (leb rfl) z2 (.hdrD rfl rfl z0) h5)) 0 ?_;refine' rx (.u [1] rfl rfl (QaV ud29 QbR z8 z7 p)) 0 ?_;refine' rx (.e [3] [1] [4] rfl rfl rfl rfl (Qlx (B:=deep (dOwn rI 3) 22 (i++[j.2]) (Qec i.length (ds b (s0.1).toNat) (q 8) (dmk d []))) (g2:=(Qec i.length (ds b (s0.1).toNat) (q 8) (dmk d []))) (λ_ _ h=>Qsv h) Qc0 z0 z1 p (leb rfl) rfl)) 0 ?_;exact rnn);refine Qan (As'':=[deep (dRow (dOwn rI 3) 22) 40 m (dset (c.2.2).length b (s0.1).toNat (Qec i.length (ds b (s0.1).toNat) (q 8) (dmk d [])))]) (λ_ _ H=>H.shutN (D:=(dRow (dOwn rI 3) 22)) (y:=(i++[j.2])) (g2:=(Qec i.length (ds b (s0.1).toNat) (q 8) (dmk d []))) p k) ?_;refine k6 <|QJ 4088 ?_;exact Q7 k4 (dset (c.2.2).length b (s0.1).toNat (Qec i.length (ds b (s0.1).toNat) (q 8) (dmk d []))) ((sj h).symm) 1010
   refine Qk <|QaU h3 (λg l=>[(12,ti g.1),(11,tv l),(8,ti g.2.1)]) 558792704065665 (λg l=>[own rI 3 g.2.2 l]) 385 (.slice none 0 0) 1022 ?_;clear h;intro g l o K5 h w k8;refine Qf λ_ k9=>?_;have⟨_,_,h⟩:=bs h;refine Qa 523776 ?_;refine Qo h (λ_ h=>?_) λ_ h=>?_
   ·refine Qu <|k9 <|Qf λ_ K=>Qk ?_;have⟨_,_,t1,_,h⟩:=bs2 h;refine QU [v1 9 (λv0=>box (Qd.cs zz0) v0),v1 9 (λv0=>box (Qd.cs t1) v0)] [10,11] 2094080 λm2=>?_;refine Q1 (λ_ _ H=>(((H.Xk [2,0,1] rfl).Xl 0 rfl).add 0 rfl (λ_ _ _ h=>h.2)).pick [0,3,4,5,6,7,8,9,10,11]) ?_;have⟨_,_,h⟩:=bs h;refine Qa 67076096 ?_;refine Qf λL N=>Qa 16380 ?_;refine Qk <|Qa 32764 ?_;have⟨S,T,h⟩:=bs h;refine tJ0 [(14,ti S)] 2081537 [] 127 L ?_ λU=>?_
    ·refine N ?_;have⟨_,_,h⟩:=bs h;refine QU [v1 3 (λv0=>own rI 3 (g.2.2++[S]) v0)] [4] 32688 λm3=>?_;refine QJ 8184 ?_;refine K <|QJ 8184 ?_;refine Qan (λ_ _ H=>(H.pick [0,3,4,5,1,6,7,8,9]).Xk [1,0] rfl) ?_;exact Q7 k8 (m3 3) ((sj h).symm) 1022
    replace h:=T;clear T;refine Qo h (λ_ h=>?_) λ_ h=>?_
    ·have⟨_,_,_,_,h⟩:=bs2 h;refine QJ 66985984 ?_;obtain rfl:=sj h;exact QN U 2046
    refine Qa 65460 ?_;have⟨p4,V,h⟩:=bs h;have W:To M E 119 [(14,ti p4),(12,ti g.1),(11,tv l),(10,ti c.1),(9,ti s0.1),(8,ti g.2.1),(7,tv (dh b)),(3,tptr (Qb.cs s)),(1,tsl rI a),(2,tsl rI t)] [own rI 3 g.2.2 l,deep (dRow (dOwn rI 3) 22) 40 c.2.2 b] L:=by
     obtain rfl:=sj h;exact QN U 2046
    replace h:=V;clear V;refine Qo h (λ_ h=>?_) λ_ h=>?_
    ·have⟨_,_,r3,O,_,_,h⟩:=bs3 h;refine QJ 33497096 ?_ (λ_=>by refine' pr 7 ?_;refine' rx (.u [1] rfl rfl (QaV ud29 QbR z4 z0 O)) 0 ?_;refine' rx (.u [1] rfl rfl (Qa7 Qc0 z0 O)) 0 ?_;refine' rx (.u [1] rfl rfl (.part (Q9 O .refl) (Qg9 ud40 z0))) 3 ?_;exact rnn);obtain rfl:=sj h;exact QN W 4092
    refine Qf λK7 P=>Qa 32756 ?_;have⟨p5,X,h⟩:=bs h;refine tJ0 [(96,tb p5)] 2081281 [] 127 K7 ?_ λY=>?_
    ·refine P ?_;have⟨p6,z,h⟩:=bs h;have Z:To M E 119 [(14,ti p6),(12,ti g.1),(11,tv l),(10,ti c.1),(9,ti s0.1),(8,ti g.2.1),(7,tv (dh b)),(3,tptr (Qb.cs s)),(1,tsl rI a),(2,tsl rI t)] [own rI 3 g.2.2 l,deep (dRow (dOwn rI 3) 22) 40 c.2.2 b] L:=by
      obtain rfl:=sj h;exact QN W 2046
     replace h:=z;clear z;refine Qo h (λ_ h=>?_) λ_ h=>?_
     ·have⟨_,_,h⟩:=bs h;refine QJ 32720 ?_;obtain rfl:=sj h;exact QN Z 2046
     refine Qu ?_;obtain rfl:=sj h;exact QN Z 4092
    replace h:=X;clear X;refine Qo h (λ_ h=>?_) λ_ h=>?_
    ·refine Qu ?_;obtain rfl:=sj h;exact QN Y 8186
    refine QJ 16372 ?_;obtain rfl:=sj h;exact QN Y 4094
   refine QQ <|Q7 J2 l (w _ (sj h).symm) 2040
  refine QQ <|Q7 J1 b (w _ (sj h).symm) 504
 refine QQ <|Q7 J0 n (w _ (sj h).symm) 16
def QfA (h:Qm) (a:Int) (d:(List Bool)) (e:Int) (f:Q6):Option ((List Bool)×Q6):=(Qr (λ(s0:Int×List Bool×Q6×Q6)=>((opt ((decide (s0.1<=a))==true) (QgX s0.1 s0.2.2.2 s0.2.1 e s0.2.2.1) default).bind λc=>(if ((decide (s0.1<=a))&&c.1)=true then (Qr (λ(b:Int×Q6)=>(if (decide (b.1<(h.Xg.length:Int)))=true then (idx h.Xg b.1).bind λg=>(idx (s0.2.2.2).L g.a0).bind λj=>((if j=true then (idx (b.2).L g.a1).bind λm=>(some ((b.2).setI g.a1 true)) else (some b.2))).bind λk=>(some (.inl ((i64.wrap (b.1+1)),k))) else (some (.inr b.2)))) ((0:Int),zz7)).bind λl=>(some (.inl ((i64.wrap (s0.1+1)),(bif ((decide (s0.1<=a))==true) then c.2.1 else s0.2.1),(bif ((decide (s0.1<=a))==true) then c.2.2 else s0.2.2.1),l))) else (some (.inr ((bif ((decide (s0.1<=a))==true) then c.2.1 else s0.2.1),(bif ((decide (s0.1<=a))==true) then c.2.2 else s0.2.2.1))))))) ((0:Int),d,f,(Q6.mk true false false false false false false false false false false false))).bind λi=>(some (i.1,i.2))
instance QoD:SpcS prog 89 (∀{f b e p d i k j r},QfA p d i k j=some r->FnOk prog 89 [Qs.ty p,ti d,Qbu 90 [tv f,tptr (rI.cs k),tv e]] [box (rVal.cs b) f,own Qag 4 i b,box (Q8.cs j) e] (λ_=>[box (rVal.cs b) f,own Qag 4 r.1 b,box (Q8.cs r.2) e]) (λ_=>ttup [])):=.mk λ{f b e p d i k j r} h=>by
 unfold QfA at h
 refine Fe func89 ntmps89 λE M I q=>?_
 refine Qa 26 ?_
 refine QU [v1 1 (λv0=>box (Q8.cs zz7) v0),v1 1 (λv0=>box (Q8.cs (Q6.mk true false false false false false false false false false false false)) v0)] [2,3] 60 (λz=>?_) (λ_=>by refine' rx (.p (T:=Q8.ty (Q6.mk true false false false false false false false false false false false)) rfl (QsA (R:=Qag) (us:=[true]) (us2:=[false,false,false,false,false,false,false,false,false,false,false]) Qoj tok4 zv179 rfl (λF w=>(zc179 F w).drop (1 * Qag.n)) (.cons .k<|.nil _))) 2 ?_;exact rnn)
 refine Qa 62 ?_
 have⟨K,h0,h⟩:=bs h
 refine tJp (λ_=>[]) 6 (λs=>[own Qag 4 s.1 b,box (Q8.cs s.2) e]) 16514 (Ret prog f89 E [box (rVal.cs b) f,own Qag 4 i b,box (Q8.cs j) e] I (λ_=>[box (rVal.cs b) f,own Qag 4 r.1 b,box (Q8.cs r.2) e]) (λ_=>ttup []) .normal) (·=K) (λs t=>?_) λO=>?_
 ·subst t
  obtain rfl:=sj h
  exact Qll undef [0,1,2] q
 refine Qk ?_
 refine Qaf h0 (λs0=>[(7,ti s0.1)]) 2081153 (λs0=>[own Qag 4 s0.2.1 b,box (Q8.cs s0.2.2.1) e,box (Q8.cs s0.2.2.2) (z 1)]) 2113666 62 ?_
 clear h
 intro s0 o K0 h v P
 refine Qf λ_ Q=>?_
 have⟨l,S,h⟩:=bs h
 refine QU [v0 (box (rVal.cs b) f),v0 (own Qag 4 (bif ((decide (s0.1<=d))==true) then l.2.1 else s0.2.1) b),v0 (box (Q8.cs (bif ((decide (s0.1<=d))==true) then l.2.2 else s0.2.2.1)) e)] [8,8,8] 32256 (λm1=>?_) (λ_=>by refine' pr 6 ?_;refine' rx (.gu [3] rfl rfl rfl bq2 (λ_=>Qiw (R:=Q8) (u:=s0.2.2.2) Qnp z7 rfl)) 0 ?_;refine' rx (.ge (N:=λc _=>[box (rVal.cs b) f,own Qag 4 (bif c then l.2.1 else s0.2.1) b,box (Q8.cs (bif c then l.2.2 else s0.2.2.1)) e]) [] [0,1,2] [4,5,6] rfl rfl rfl rfl rfl bq3 (λm=>Qdr QyD (Qp4.ok (Qfc S m)) (.cond z2 m) (.cons (.of (.cond z1 m))<|.cons (.of (.cond z0 m))<|.nil)) rfl) 1 ?_;exact rnn)
 refine Qo h (λ_ h=>?_) λ_ h=>?_
 ·refine Qu ?_
  refine Q ?_
  refine Qf λ_ U=>?_
  refine Qk ?_
  refine QU [v1 0 (λv0=>box (Q8.cs zz7) v0)] [1] 250 λn=>?_
  refine Qf λV W=>?_
  refine Qa 2044 ?_
  have⟨X,Y,h⟩:=bs h
  refine tJp (λ_=>[]) 16261 (λx=>[box (Q8.cs x) (n 0)]) 278987138 V (·=X) (λx t=>?_) λZ=>?_
  ·subst t
   refine W ?_
   refine QaG [v0 (box (Q8.cs x) (z 1))] [2] 248 λm3=>?_
   refine Qan (λ_ _ H=>H.Xk [0,1,2,4] rfl) ?_
   refine U ?_
   refine QJ 248 ?_
   exact Qx P ((sj h).symm) 62
  refine Qk ?_
  refine Qaf Y (λg=>[(26,ti g.1)]) 34101805442 (λg=>[box (Q8.cs g.2) (n 0)]) 278987138 1022 ?_
  clear h
  intro g o K2 h v k4
  refine Qa 2046 ?_
  refine Qf λ_ k5=>?_
  refine Qo h (λ_ h=>?_) λ_ h=>?_
  ·refine Qu ?_
   refine k5 ?_
   refine Qf λK3 k6=>?_
   refine Qk ?_
   have⟨A,_,h⟩:=bs h
   refine QU [v1 2 (λv0=>box (QaR.cs (Qar.mk (0:Int) (0:Int))) v0),v1 2 (λv0=>box (QaR.cs A) v0)] [3,4] 16360 λm4=>?_
   refine Q1 (λ_ _ H=>(((H.Xk [5,0,1,2,3,4] rfl).Xl 0 rfl).add 0 rfl (λ_ _ _ h=>h.2)).pick [0,3,4,5,6,7,8,9,10,11]) ?_
   have⟨_,B,h⟩:=bs h
   refine Qa 32752 ?_ (λ_=>by refine' pr 2 ?_;refine' rx (.u [0] rfl rfl (Qkk (L:=(s0.2.2.2).L) Qoj tok4 rfl z8 z0 rfl B)) 0 ?_;refine' rx (.u [0] rfl rfl (Qq5 (o:=0) (L:=(s0.2.2.2).L) tok4 rfl z0 rfl B)) 0 ?_;exact rnn)
   have⟨p2,C,h⟩:=bs h
   refine tJ0 [] 16260 [box (Q8.cs p2) (n 0)] 278987138 K3 ?_ λD=>?_
   ·refine k6 ?_
    refine QJ 2044 ?_
    exact Qx k4 ((sj h).symm) 1306105879606625029
   replace h:=C
   clear C
   refine Qo h (λ_ h=>?_) λ_ h=>?_
   ·have⟨_,y,h⟩:=bs h
    refine QaG [v0 (box (Q8.cs ((g.2).setI A.a1 true)) (n 0))] [4] 32704 (λm5=>?_) (λ_=>by refine' pr 2 ?_;refine' rx (.u [4] rfl rfl (Qkk (L:=(g.2).L) Qoj tok4 rfl z7 z0 rfl y)) 0 ?_;refine' rx (.e [] [4] [5] rfl rfl rfl rfl (QpA (a:=true) (Ts:=(Q8.cs g.2)) (o:=0) (L:=(g.2).L) tok4 rfl z0 .k y (leb rfl) (Q6.spl (pre:=take 0 (Q8.cs g.2)) (post:=drop 12 (Q8.cs g.2)) rfl y))) 0 ?_;exact rnn)
    obtain rfl:=sj h
    exact QN D 1022
   refine Qu ?_
   obtain rfl:=sj h
   exact QN D 4088
  refine QQ ?_
  exact Qx Z (v _ (sj h).symm) 2016
 refine QQ ?_
 refine Qan (λ_ _ H=>(H.pick [5]).Xk [1,2,3] rfl) ?_
 exact Qx O (v _ (sj h).symm) 2
def Qha (c:Qm) (a:Int) (b:Int):Option ((List Bool)):=(Qij c).bind λd=>(if ((((d !=0)||(decide (a<0)))||(decide (a>b)))||(decide (b>1000)))=true then (some ([]:List Bool)) else (Qr (λ(s0:Int×Q6)=>(if (decide (s0.1<(c.Xe.length:Int)))=true then (Qik c s0.1).bind λe=>(idx (s0.2).L s0.1).bind λi=>(some (.inl ((i64.wrap (s0.1+1)),((s0.2).setI s0.1 ((e.length:Int)==0))))) else (some (.inr s0.2)))) ((0:Int),zz7)).bind λf=>(mk (c.Xe.length:Int) false).bind λg=>(QfA c b g a f).bind λh=>(some h.1))
instance Qm0:Spc3 prog 51 Qha (λi b c=>[Qs.ty i,ti b,ti c]) (tsl Qag):=.mk λ{i b c r} h=>by
 unfold Qha at h
 refine Fe func51 ntmps51 λz M A d=>?_
 refine Qa 70 ?_
 have⟨_,_,h⟩:=bs h
 refine tIfs h 983040 (λ_ h=>?_) λ_ h=>?_
 ·refine Qa 2 ?_
  exact Qp h (·▸Qn d)
 refine QU [v1 0 (λv0=>box (Q8.cs zz7) v0)] [1] 58 λe=>?_
 refine Qf λm n=>?_
 refine Qa 504 ?_
 have⟨p,h0,h⟩:=bs h
 refine tJp (λ_=>[]) 16260 (λj=>[box (Q8.cs j) (e 0)]) 1 m (·=p) (λj q=>?_) λs=>?_
 ·subst q
  refine n ?_
  have⟨t,_,h⟩:=bs h
  refine QU [v1 3 (λv0=>own Qag 4 t v0),v1 4 (λv0=>box (rVal.cs nilV) v0),v2 3 4 (λv0 v1=>box (rVal.cs v0) v1)] [4,5,6] 1008 (λf=>?_) (λ_=>by refine' pr 4 ?_;refine' rx (.m [] [2] rfl rfl rfl (Qq2 Ql1)) 1 ?_;exact rnn)
  have⟨k,u,h⟩:=bs h
  refine QU [v0 (box (rVal.cs (f 3)) (f 4)),v0 (own Qag 4 k.1 (f 3)),v0 (box (Q8.cs k.2) (e 0))] [4,4,4] 96 (λB=>?_) (λ_=>by refine' pr 3 ?_;refine' rx (.e [] [2,1,0] [3,4,5] rfl rfl rfl rfl (QO QyC (QoD.ok u) (.cons (.of z2)<|.cons (.of z1)<|.cons (.of z0)<|.nil))) 0 ?_;exact rnn)
  refine Q1 (λ_ _ H=>H.Xk [0,1] rfl) ?_
  refine Qa 14 ?_
  refine Q1 (λ_ _ H=>H.Xk [1] rfl) ?_
  refine QaA ?_
  refine Qan (by intro _ _ H;exact (H.Xn 1 rfl).pick [0]) ?_
  obtain rfl:=sj h
  exact Qn d
 refine Qk ?_
 refine Qaf h0 (λs0=>[(29,ti s0.1)]) 266403970 (λs0=>[box (Q8.cs s0.2) (e 0)]) 1 126 ?_
 clear h
 intro s0 o C h v w
 refine Qa 254 ?_
 refine Qf λ_ x=>?_
 refine Qo h (λ_ h=>?_) λ_ h=>?_
 ·refine Qu ?_
  refine x ?_
  refine Qf λ_ y=>?_
  refine Qk ?_
  refine Qa 1012 ?_
  have⟨l,_,_,g,h⟩:=bs2 h
  refine QaG [v0 (box (Q8.cs ((s0.2).setI s0.1 ((l.length:Int)==0))) (e 0))] [8] 32256 (λD=>?_) (λ_=>by refine' pr 6 ?_;refine' rx (.u [0] rfl rfl (Qkk (L:=(s0.2).L) Qoj tok4 rfl z9 z5 rfl g)) 0 ?_;refine' rx (.e [] [0] [1] rfl rfl rfl rfl (QpA (a:=((l.length:Int)==0)) (Ts:=(Q8.cs s0.2)) (o:=0) (L:=(s0.2).L) tok4 rfl z0 z1 g (leb rfl) (Q6.spl (pre:=take 0 (Q8.cs s0.2)) (post:=drop 12 (Q8.cs s0.2)) rfl g))) 0 ?_;exact rnn)
  refine y ?_
  refine QJ 252 ?_
  exact Qx w ((sj h).symm) 415018090757
 refine QQ ?_
 exact Qx s (v _ (sj h).symm) 240
def Qi8 (e:Qc) (f:Int):Option ((List QH)):=(QhI e f).bind λa=>(Qr (λ(s0:Int×List QH)=>(if (decide (s0.1<(a.length:Int)))=true then (idx a s0.1).bind λb=>(idx a s0.1).bind λc=>(idx a s0.1).bind λd=>(rm (s0.2.length+[(QH.mk b.A c.B d.N)].length)).bind λ_=>(some (.inl ((i64.wrap (s0.1+1)),(s0.2++[(QH.mk b.A c.B d.N)])))) else (some (.inr s0.2)))) ((0:Int),([]:List QH))).bind λg=>(some g)
instance QF2:SpcS prog 8 (∀{c d r},Qi8 c d=some r->FnOk prog 8 [Qb.ty c,ti d] [] (λv=>[own Qah 44 r v]) (λv=>tv v)):=.mk λ{c d r} h=>by
 unfold Qi8 at h
 refine Fe func8 ntmps8 λx M j e=>?_
 refine Qa 18 ?_
 have⟨_,_,h⟩:=bs h
 refine Qa 16 ?_
 refine Qa 6 ?_
 refine Q1 (λ_ _ H=>H.nil (Qah) 44) ?_
 refine Qf λk l=>?_
 refine Qa 14 ?_
 have⟨m,h0,h⟩:=bs h
 have n:∀f b,f=m->To M j 37 [(6,tv b)] [own Qah 44 f b] k:=by
  intro f b p;subst p;refine l <|Qa 14 ?_;exact Qp h (·▸QaQ b [0] e)
 refine Qk <|QaU h0 (λs0 a=>[(7,ti s0.1),(6,tv a)]) 65665 (λs0 a=>[own Qah 44 s0.2 a]) 1 (.slice none 0 0) 14 ?_;clear h;intro s0 a o y h q s;refine Qf λ_ t=>Qa 240 ?_;refine Qo h (λ_ h=>?_) λ_ h=>?_
 ·refine Qu <|t <|Qf λ_ u=>Qk ?_;have⟨g,i,h⟩:=bs h;replace h:=bk i h;replace h:=bk i h;have⟨_,_,h⟩:=bs h;refine QaG [v1 18 (λv0=>own Qah 44 (s0.2++[(QH.mk g.A g.B g.N)]) v0)] [19] 14155776 λw=>?_;refine u <|QJ 120 ?_;exact Q7 s (w 18) ((sj h).symm) 26
 refine QQ <|Q7 n a (q _ (sj h).symm) 8
