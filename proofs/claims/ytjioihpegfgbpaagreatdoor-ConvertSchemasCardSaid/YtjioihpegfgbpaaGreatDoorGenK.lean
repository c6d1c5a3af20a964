/- The walk. No condition. -/
import Derived.Test.YtjioihpegfgbpaaGreatDoorGenJ
set_option linter.all false
open List Go.Proofs.Tryz Go.IntKind
namespace Go.Proofs.YtjioihpegfgbpaaGreatDoor
noncomputable section
open Go.Sim
set_option maxRecDepth 100000
set_option maxHeartbeats 4000000
def rmB (n:Nat):Bool:=(rm n).isSome
def Qlv (x:Qa):Bool:=rmB x.Xa.length&&x.Xa.all (λk=>rmB k.Xb.length&&k.Xb.all λf=>rmB f.Words.length&&rmB f.Xf.length)&&rmB x.Xd.length&&x.Xd.all (λl=>rmB l.Xe.length&&rmB l.Xg.length)&&rmB x.Xc.length
def QbM (x_:Qa):Option Qa:=if Qlv x_=true then some x_ else none
theorem Qhd {n:Nat} (h:rmB n=true):rm n=some ()/\n<=68719476736:=by
 unfold rmB rm at h;split at h
 ·rename_i hl;exact⟨by unfold rm;rw[Ze hl],hl⟩
 cases h
theorem Qrq {x:Qa} (h:Qlv x=true):Qfd x.Xa=some x.Xa/\(∀i (hi:i<x.Xa.length),QeP x.Xa[i].Xb=some x.Xa[i].Xb/\x.Xa[i].Xb.length<=68719476736/\∀j (hj:j<x.Xa[i].Xb.length),Qcv x.Xa[i].Xb[j].Words=some x.Xa[i].Xb[j].Words/\QcB x.Xa[i].Xb[j].Xf=some x.Xa[i].Xb[j].Xf)/\
  Qfe x.Xd=some x.Xd/\(∀i (hi:i<x.Xd.length),Qcv x.Xd[i].Xe=some x.Xd[i].Xe/\Qeg x.Xd[i].Xg=some x.Xd[i].Xg)/\Qff x.Xc=some x.Xc/\x.Xa.length<=68719476736/\x.Xd.length<=68719476736:=by
 unfold Qlv at h;simp only[Zh,Zs] at h;obtain⟨⟨⟨⟨h1,h2⟩,h3⟩,h4⟩,h5⟩:=h;have z:∀n,0+n=n:=Nat.zero_add;refine⟨?_,λi hi=>?_,?_,λi hi=>?_,?_,(Qhd h1).2,(Qhd h3).2⟩
 ·unfold Qfd;simp[(Qhd h1).1]
 ·obtain⟨h6,h7⟩:=h2 _ (Zn hi);refine⟨by unfold QeP;simp[(Qhd h6).1],(Qhd h6).2,λj hj=>?_⟩;obtain⟨h8,h9⟩:=h7 _ (Zn hj);exact⟨by unfold Qcv;simp[(Qhd h8).1],by unfold QcB;simp[(Qhd h9).1]⟩
 ·unfold Qfe;simp[(Qhd h3).1]
 ·obtain⟨h8,h9⟩:=h4 _ (Zn hi);exact⟨by unfold Qcv;simp[(Qhd h8).1],by unfold Qeg;simp[(Qhd h9).1]⟩
 unfold Qff;simp[(Qhd h5).1]
instance QhE:SpcS prog 41 (∀{x_ r:Qa},QbM x_=some r->FnOk prog 41 [Qb.ty x_] [] (λv=>[deep dK67 54 r.Xa (gh v 0),deep dL91 59 r.Xd (gh v 1),own Ql 62 r.Xc (gh v 2)]) (λv=>tagg ([ti r.Version,tvs (dh (gh v 0)),tvs (dh (gh v 1)),tvs (gh v 2)]))):=.mk λ{x_ r} h=>by
 unfold QbM at h
 split at h
 case isFalse=>cases h
 rename_i hb
 obtain rfl:=sj h
 obtain⟨hK,hKF,hL,hLF,hR,bK,bL⟩:=Qrq hb
 clear h hb
 refine fe func41 ntmps41 λM0 M w0 a hpl H=>?_
 refine wp_seq_k (λK0 k0=>?_)
 refine wr mx [v1 0 (λx0=>box (Qb.cs x_) x0),v1 1 (λx0=>box (Qb.cs zz4) x0)] H (λ_=>.m [] [0] rfl rfl rfl (Qn4 (R:=Qb) (u:=x_) z0)<|.m [] [1] rfl rfl rfl (QV (R:=Qb) (a:=zz4) QH QdK)<|.n) λm0 a w H=>?_
 have H:=H.t2_2 [0,1]
 refine k0 _ _ ?_
 clear k0 K0
 refine wp_seq_k (λK0 k0=>?_)
 refine wr mx [v1 2 (λx0=>own Qp 54 x_.Xa x0),v1 2 (λx0=>box ([ti x_.Version,tvs x0,tsl Qo x_.Xd,tsl Ql x_.Xc]) (m0 0))] H (λ_=>.u [0] rfl rfl (QC QZ z0)<|.u [0] rfl rfl (QaY (R:=(rSl Qp)) (u:=x_.Xa) Qa0 z0 rfl)<|.m [] [2] rfl rfl rfl (Qq QAi (QlP.ok hK) (.cons (.of z0)<|.nil))<|.u [0] rfl rfl (QC QZ z3)<|.e [2] [0] [3] rfl rfl rfl rfl (Qco (R:=Qp) (e:=54) (Ts:=Qb.cs x_) (off:=1) Qa7 z0 z1 (leb rfl))<|.n) λm1 a w H=>?_
 replace H:St _ _ _ [_,_] [_,_,_] _ _:=(H.pick [4,5]).Xj [2,0,1] rfl
 refine k0 _ _ ?_
 clear k0 K0
 refine wp_seq_k (λK0 k0=>?_)
 refine wp_seq_k (λK1 k1=>?_)
 refine wr mx [] H (λ_=>.u [0] rfl rfl (QC QZ z0)<|.u [0] rfl rfl (QX (u:=(m1 2)) Qa7 z0 rfl)<|.u [2] rfl rfl (Qdn ud23 z0)<|.o (QL .k)<|.n) λ_ a w H=>?_
 replace H:St _ _ _ [_,_,_,_] [_,_,_] _ _:=(H.pick [2,3,4,5]).Xj [2,0,1] rfl
 refine k1 _ _ ?_
 clear k1 K1
 replace H:=H.bareZ (D:=oK67) fzV rfl (λ_=>rfl) (λ_=>⟨λ_ _=>trivial,λ_ h=>h⟩)
 have j0:∀g a w,Done x_.Xa.length x_.Xa.length nofz fzV (m1 2) g->St M w0 111 [(1,tv (m0 0)),(2,tv (m0 1))] [Qaq oK67 54 x_.Xa g none,box ([ti x_.Version,tvs (dh g),tsl Qo x_.Xd,tsl Ql x_.Xc]) (m0 0),box (Qb.cs zz4) (m0 1)] a w->K0 a w:=by
  intro g a w he H;have ed:Qaq oK67 54 x_.Xa g none=Qaq dK67 54 x_.Xa g none:=Qpc rfl (λj k hj=>by show (Qp.cs k).set 3 _=(Qp.cs k).set 3 _;rw[QjZ (he.upto j (Zc.1 hj).1)]) (λj k hj=>Qj0 (he.upto j (Zc.1 hj).1));rw[ed] at H;clear ed he;refine k0 _ _ ?_;clear k0 K0;refine wp_seq_k (λK0 k0=>?_);refine wr mx [v1 2 (λx0=>own Qo 59 x_.Xd x0),v1 2 (λx0=>box ([ti x_.Version,tvs (dh g),tvs x0,tsl Ql x_.Xc]) (m0 0))] H (λ_=>.u [1] rfl rfl (QC Qct z0)<|.u [1] rfl rfl (QaY (R:=(rSl Qo)) (u:=x_.Xd) Qiw z0 rfl)<|.m [] [3] rfl rfl rfl (Qq QAk (QlQ.ok hL) (.cons (.of z0)<|.nil))<|.u [1] rfl rfl (QC Qct z3)<|.e [3] [1] [4] rfl rfl rfl rfl (Qco (R:=Qo) (e:=59) (Ts:=[ti x_.Version,tvs (dh g),tsl Qo x_.Xd,tsl Ql x_.Xc]) (off:=2) QhL z0 z1 (leb rfl))<|.n) λm2 a w H=>?_;replace H:St _ _ _ [_,_] [_,_,_,_] _ _:=(H.pick [4,5]).Xj [2,0,3,1] rfl;refine k0 _ _ ?_;clear k0 K0;refine wp_seq_k (λK0 k0=>?_);refine wp_seq_k (λK1 k1=>?_);refine wr mx [] H (λ_=>.u [2] rfl rfl (QC Qct z0)<|.u [2] rfl rfl (QX (u:=(m2 2)) QhL z0 rfl)<|.u [0] rfl rfl (Qdn ud24 z0)<|.o (QL .k)<|.n) λ_ a w H=>?_;have H:=H.to [2,3,4,5] [_,_,_,_] [_,_,_,_] rfl rfl;refine k1 _ _ ?_;clear k1 K1;replace H:=H.bareZ (D:=oL91) (dmk nilV [fzV,fzV]) rfl (λ_=>rfl) (λ_=>⟨λ_ _=>⟨λA hA=>(by simp only[Zm,Zr,ZJ] at hA;rcases hA with rfl | rfl<;>trivial),Pairwise.cons (λ_ _ _ h=>h.elim) (pairwise_singleton _ _)⟩,λ_ ⟨A,hA,hk⟩=>(by simp only[Zm,Zr,ZJ] at hA;rcases hA with rfl | rfl<;>exact hk)⟩);have j1:∀g2 a w,Done x_.Xd.length x_.Xd.length Qqs (dmk nilV [fzV,fzV]) (m2 2) g2->St M w0 111 [(1,tv (m0 0)),(2,tv (m0 1))] [Qaq oL91 59 x_.Xd g2 none,Qaq dK67 54 x_.Xa g none,box ([ti x_.Version,tvs (dh g),tvs (dh g2),tsl Ql x_.Xc]) (m0 0),box (Qb.cs zz4) (m0 1)] a w->K0 a w:=by
   intro g2 a w he H;have ed:Qaq oL91 59 x_.Xd g2 none=Qaq dL91 59 x_.Xd g2 none:=Qpc rfl (λj k hj=>by have hq:=he.upto j (Zc.1 hj).1;show ((Qo.cs k).set 1 _).set 2 _=((Qo.cs k).set 1 _).set 2 _;rw[QjZ hq.1,QjZ hq.2]) (λj k hj=>by have hq:=he.upto j (Zc.1 hj).1;show QaV [_,_]=QaV [_,_];rw[Qj0 hq.1,Qj0 hq.2]);rw[ed] at H;clear ed he;refine k0 _ _ ?_;clear k0 K0;refine wp_seq_k (λK0 k0=>?_);refine wr mx [v1 2 (λx0=>own Ql 62 x_.Xc x0),v1 2 (λx0=>box ([ti x_.Version,tvs (dh g),tvs (dh g2),tvs x0]) (m0 0))] H (λ_=>.u [2] rfl rfl (QC QaO z0)<|.u [2] rfl rfl (QaY (R:=(rSl Ql)) (u:=x_.Xc) QcH z0 rfl)<|.m [] [4] rfl rfl rfl (Qq QAm (QlR.ok hR) (.cons (.of z0)<|.nil))<|.u [2] rfl rfl (QC QaO z3)<|.e [4] [2] [5] rfl rfl rfl rfl (Qco (R:=Ql) (e:=62) (Ts:=[ti x_.Version,tvs (dh g),tvs (dh g2),tsl Ql x_.Xc]) (off:=3) QhM z0 z1 (leb rfl))<|.n) λm3 a w H=>?_;replace H:St _ _ _ [_,_] [_,_,_,_,_] _ _:=(H.pick [4,5]).Xj [1,0,3,4,2] rfl;refine k0 _ _ ?_;clear k0 K0;refine wp_seq_k (λK0 k0=>?_);refine wr mx [v0 (box ([ti x_.Version,tvs (dh g),tvs (dh g2),tvs (m3 2)]) (m0 1))] H (λ_=>.u [3] rfl rfl (Qbm (R:=(rAgg ([ti x_.Version,tvs (dh g),tvs (dh g2),tvs (m3 2)]) (Qk (QO rfl) (Qk QU (Qk QU (Qk QU Q5)))))) (u:=()) (tokA QH (Qk (QO rfl) (Qk QU (Qk QU (Qk QU Q5)))) rfl rfl) z0 rfl)<|.e [] [4] [5] rfl rfl rfl rfl (QG (R:=(rAgg ([ti x_.Version,tvs (dh g),tvs (dh g2),tvs (m3 2)]) (Qk (QO rfl) (Qk QU (Qk QU (Qk QU Q5)))))) (a:=()) (tokA QH (Qk (QO rfl) (Qk QU (Qk QU (Qk QU Q5)))) rfl rfl) z2 z0 (leb rfl))<|.n) λ_ a w H=>?_;replace H:St _ _ _ [_] [_,_,_,_] _ _:=(H.pick [2]).Xj [0,1,2,4] rfl;refine k0 _ _ ?_;clear k0 K0;refine wp_ret ?_;exact rt (.tuple #[g,g2,m3 2]) [0,1,2] hpl H (.cell (R:=(rAgg ([ti x_.Version,tvs (dh g),tvs (dh g2),tvs (m3 2)]) (Qk (QO rfl) (Qk QU (Qk QU (Qk QU Q5)))))) (u:=()) (tokA QH (Qk (QO rfl) (Qk QU (Qk QU (Qk QU Q5)))) rfl rfl) z0 3 rfl rfl .nil)
  clear k0 hR;refine wp_block ?_;refine QnP x_.Xd.length (λi a w=>∃g2,Done x_.Xd.length i Qqs (dmk nilV [fzV,fzV]) (m2 2) g2/\St M w0 111 [(78,ti (i:Int)),(77,ti (x_.Xd.length:Int)),(1,tv (m0 0)),(2,tv (m0 1))] [Qaq oL91 59 x_.Xd g2 none,Qaq dK67 54 x_.Xa g none,box ([ti x_.Version,tvs (dh g),tvs (dh g2),tsl Ql x_.Xc]) (m0 0),box (Qb.cs zz4) (m0 1)] a w) ⟨_,Done.start,H.pick [1,0,2,3]⟩ (λi a w K1 hi hI k1=>?_);obtain⟨g2,dg,H⟩:=hI;refine wp_seq_k (λK2 k2=>?_);refine wr mx [] H (λ_=>.o (Q8 z0 z1)<|.n) λ_ a w H=>?_;have H:=H.to [0,1,2,3,4] [_,_,_,_,_] [_,_,_,_] rfl rfl;refine k2 _ _ ?_;clear k2 K2;refine wp_seq_k (λK2 k2=>?_);refine wt H (λb=>?_) (λb=>?_)
  ·have hi:=QmB b;refine wp_skip (k2 _ _ ?_);clear k2 K2;refine wp_seq_k (λK2 k2=>?_);refine wp_block ?_;refine wp_seq_k (λK3 k3=>?_);refine wr mx [] H (λ_=>.q 1 rfl<|.o (Qc z0)<|.n) λ_ a w H=>?_;have H:=H.to [1,2,3,4,5,6] [_,_,_,_,_,_] [_,_,_,_] rfl rfl;refine k3 _ _ ?_;clear k3 K3;have ez:ds g2 i=dmk nilV [fzV,fzV]:=dg.rest i (Zp _) hi;replace H:=H.openZ hi;obtain⟨hs,hm⟩:=hLF i hi;have e0:(rSl rS).cs x_.Xd[i].Xe=((oL91.cs x_.Xd[i] (ds g2 i)).drop 1).take 1:=by rw[ez];rfl
   have e1:∀v,oL91.cs x_.Xd[i] (dmk nilV [dmk v [],fzV])=splice (oL91.cs x_.Xd[i] (ds g2 i)) 1 [tvs v]:=λv=>by rw[ez];rfl
   refine wp_seq_k (λK3 k3=>?_);refine QbA mixed [v1 9 (λx0=>own rS 9 x_.Xd[i].Xe x0),v1 9 (λx0=>Qaq oL91 59 x_.Xd (dset x_.Xd.length g2 i (dmk nilV [dmk x0 [],fzV])) (some i))] H (λm4=>.u [2] rfl rfl (QC Qct z4)<|.u [2] rfl rfl (QX (u:=(dh g2)) QhL z0 rfl)<|.q 2 rfl<|.u [2] rfl rfl (QC Qct z7)<|.u [2] rfl rfl (QX (u:=(dh g2)) QhL z0 rfl)<|.q 5 rfl<|.u [0] rfl rfl (Qal ud24 Qe7 z1 z0 (Qad hi))<|.u [0] rfl rfl (Qah Qlm z0 rfl (Qad hi))<|.u [0] rfl rfl (QaA (R2:=(rSl rS)) (f:=x_.Xd[i].Xe) Qhs z0 (Qad hi) e0)<|.m [] [4] rfl rfl rfl (Qq QuF (QhR.ok hs) (.cons (.of z0)<|.nil))<|.u [0] rfl rfl (Qal ud24 Qe7 z8 z7 (Qad hi))<|.u [0] rfl rfl (Qah Qlm z0 rfl (Qad hi))<|.e [4] [0] [5] rfl rfl rfl rfl (QcQ (B:=own rS 9 x_.Xd[i].Xe (m4 9)) (hv:=(m4 9)) (g2:=dmk nilV [dmk (m4 9) [],fzV]) (λ_ _ h=>Qdo h) Qov z0 z2 (Qad hi) (leb rfl) (e1 (m4 9)))<|.nil _ _) (by kernel_rfl) (λm4 a w H=>?_);replace H:St _ _ _ [_,_,_,_,_,_] [_,_,_,_,_] _ _:=(H.pick [12,13,14,15,16,17]).Xj [4,0,1,2,3] rfl;refine k3 _ _ ?_;clear k3 K3;have e2:(rSl Qaz).cs x_.Xd[i].Xg=((oL91.cs x_.Xd[i] (ds (dset x_.Xd.length g2 i (dmk nilV [dmk (m4 9) [],fzV])) i)).drop 2).take 1:=by rw[QeW hi];rfl
   have e3:∀v,oL91.cs x_.Xd[i] (dmk nilV [dmk (m4 9) [],dmk v []])=splice (oL91.cs x_.Xd[i] (ds (dset x_.Xd.length g2 i (dmk nilV [dmk (m4 9) [],fzV])) i)) 2 [tvs v]:=λv=>by rw[QeW hi];rfl
   refine QbA mixed [v1 9 (λx0=>own Qaz 60 x_.Xd[i].Xg x0),v1 9 (λx0=>Qaq oL91 59 x_.Xd (dset x_.Xd.length (dset x_.Xd.length g2 i (dmk nilV [dmk (m4 9) [],fzV])) i (dmk nilV [dmk (m4 9) [],dmk x0 []])) (some i))] H (λm5=>.u [2] rfl rfl (QC Qct z4)<|.u [2] rfl rfl (QX (u:=(dh g2)) QhL z0 rfl)<|.q 2 rfl<|.u [2] rfl rfl (QC Qct z7)<|.u [2] rfl rfl (QX (u:=(dh g2)) QhL z0 rfl)<|.q 5 rfl<|.u [0] rfl rfl (Qal ud24 Qe7 z1 z0 (Qad hi))<|.u [0] rfl rfl (Qah QiU z0 rfl (Qad hi))<|.u [0] rfl rfl (QaA (R2:=(rSl Qaz)) (f:=x_.Xd[i].Xg) QlN z0 (Qad hi) e2)<|.m [] [5] rfl rfl rfl (Qq QAl (Qk2.ok hm) (.cons (.of z0)<|.nil))<|.u [0] rfl rfl (Qal ud24 Qe7 z8 z7 (Qad hi))<|.u [0] rfl rfl (Qah QiU z0 rfl (Qad hi))<|.e [5] [0] [6] rfl rfl rfl rfl (QcQ (B:=own Qaz 60 x_.Xd[i].Xg (m5 9)) (hv:=(m5 9)) (g2:=dmk nilV [dmk (m4 9) [],dmk (m5 9) []]) (λ_ _ h=>Qdo h) QzX z0 z2 (Qad hi) (leb rfl) (e3 (m5 9)))<|.nil _ _) (by kernel_rfl) (λm5 a w H=>?_);replace H:St _ _ _ [_,_,_,_,_,_] [_,_,_,_,_,_] _ _:=(H.pick [12,13,14,15,16,17]).Xj [3,4,5,0,1,2] rfl;refine k2 _ _ ?_;clear k2 K2;replace H:=St.shutN (D:=oL91) (g2:=dmk nilV [dmk (m4 9) [],dmk (m5 9) []]) (Qad hi) (QlL hi) (St.join (l:=[_,_]) H);refine wr mx [] H (λ_=>.o (Qab z2 .k)<|.q 0 rfl<|.n) λ_ a w H=>?_;have H:=H.to [1,2,3,4,5,6] [_,_,_,_,_,_] [_,_,_,_] rfl rfl;rw[QnQ (ZW (Nat.le_of_lt hi) bL)] at H;exact k1 hi _ _ ⟨_,dg.step2 hi ⟨rfl,rfl⟩,H.pick [0,3,4,5]⟩
  obtain rfl:i=x_.Xd.length:=Nat.le_antisymm hi (Nat.le_of_not_lt (by simpa using b));refine wp_exit ?_;exact j1 _ _ _ dg (H.pick [3,4])
 clear k0 hL hLF hR bL;refine wp_block ?_;refine QnP x_.Xa.length (λi a w=>∃g,Done x_.Xa.length i nofz fzV (m1 2) g/\St M w0 111 [(14,ti (i:Int)),(13,ti (x_.Xa.length:Int)),(1,tv (m0 0)),(2,tv (m0 1))] [Qaq oK67 54 x_.Xa g none,box ([ti x_.Version,tvs (dh g),tsl Qo x_.Xd,tsl Ql x_.Xc]) (m0 0),box (Qb.cs zz4) (m0 1)] a w) ⟨_,Done.start,H.pick [1,0,2,3]⟩ (λi a w K1 hi hI k1=>?_);obtain⟨g,dg,H⟩:=hI;refine wp_seq_k (λK2 k2=>?_);refine wr mx [] H (λ_=>.o (Q8 z0 z1)<|.n) λ_ a w H=>?_;have H:=H.to [0,1,2,3,4] [_,_,_,_,_] [_,_,_] rfl rfl;refine k2 _ _ ?_;clear k2 K2;refine wp_seq_k (λK2 k2=>?_);refine wt H (λb=>?_) (λb=>?_)
 ·have hi:=QmB b;refine wp_skip (k2 _ _ ?_);clear k2 K2;refine wp_seq_k (λK2 k2=>?_);refine wp_block ?_;refine wp_seq_k (λK3 k3=>?_);refine wr mx [] H (λ_=>.q 1 rfl<|.o (Qc z0)<|.n) λ_ a w H=>?_;have H:=H.t6_3 [1,2,3,4,5,6];refine k3 _ _ ?_;clear k3 K3;refine wp_seq_k (λK3 k3=>?_);refine wr mx [] H (λ_=>.u [1] rfl rfl (QC QZ z4)<|.u [1] rfl rfl (QX (u:=(dh g)) Qa7 z0 rfl)<|.q 2 rfl<|.u [0] rfl rfl (Qal ud23 Q6 z1 z0 (Qad hi))<|.o (Qc z0)<|.n) λ_ a w H=>?_;have H:=H.t6_3 [4,6,7,8,9,10];refine k3 _ _ ?_;clear k3 K3;refine wp_seq_k (λK3 k3=>?_);have ez:ds g i=fzV:=dg.rest i (Zp _) hi;replace H:=H.openZ hi;obtain⟨hF,bF,hFF⟩:=hKF i hi;have e4:(rSl Qe).cs x_.Xa[i].Xb=((oK67.cs x_.Xa[i] (ds g i)).drop 3).take 1:=by rw[ez];rfl
  have e5:∀v,oK67.cs x_.Xa[i] (dmk v [])=splice (oK67.cs x_.Xa[i] (ds g i)) 3 [tvs v]:=λv=>by rw[ez];rfl
  refine QbA mixed [v1 5 (λx0=>own Qe 70 x_.Xa[i].Xb x0),v1 5 (λx0=>Qaq oK67 54 x_.Xa (dset x_.Xa.length g i (dmk x0 [])) (some i))] H (λm6=>.q 0 rfl<|.q 1 rfl<|.u [0] rfl rfl (QdC z0 (Qad hi))<|.u [0] rfl rfl (Qah Qaf z0 rfl (Qad hi))<|.u [0] rfl rfl (QaA (R2:=(rSl Qe)) (f:=x_.Xa[i].Xb) QbG z0 (Qad hi) e4)<|.m [] [3] rfl rfl rfl (Qq QAj (Qlu.ok hF) (.cons (.of z0)<|.nil))<|.u [0] rfl rfl (QdC z5 (Qad hi))<|.u [0] rfl rfl (Qah Qaf z0 rfl (Qad hi))<|.e [3] [0] [4] rfl rfl rfl rfl (QcQ (B:=own Qe 70 x_.Xa[i].Xb (m6 5)) (hv:=(m6 5)) (g2:=dmk (m6 5) []) (λ_ _ h=>Qdo h) Qbe z0 z2 (Qad hi) (leb rfl) (e5 (m6 5)))<|.nil _ _) (by kernel_rfl) (λm6 a w H=>?_);replace H:St _ _ _ [_,_,_,_,_,_] [_,_,_,_] _ _:=(H.pick [8,9,10,11,12,13]).Xj [2,3,0,1] rfl;refine k3 _ _ ?_;clear k3 K3;have e6:rVal.cs (m6 5)=((oK67.cs x_.Xa[i] (ds (dset x_.Xa.length g i (dmk (m6 5) [])) i)).drop 3).take 1:=by rw[QeW hi];rfl
  replace H:=H.bareZ (D:=oW70) (dmk nilV [fzV,fzV]) rfl (λ_=>rfl) (λ_=>⟨λ_ _=>⟨λA hA=>(by simp only[Zm,Zr,ZJ] at hA;rcases hA with rfl | rfl<;>trivial),Pairwise.cons (λ_ _ _ h=>h.elim) (pairwise_singleton _ _)⟩,λ_ ⟨A,hA,hk⟩=>(by simp only[Zm,Zr,ZJ] at hA;rcases hA with rfl | rfl<;>exact hk)⟩);refine wp_seq_k (λK3 k3=>?_);refine wr mx [] H (λ_=>.q 0 rfl<|.u [1] rfl rfl (QdC z0 (Qad hi))<|.u [1] rfl rfl (Qah Qaf z0 rfl (Qad hi))<|.u [1] rfl rfl (Qbt (QaA (R2:=rVal) (f:=(m6 5)) Qbe z0 (Qad hi) e6) (λ_ _ _ _ h=>h.1))<|.u [0] rfl rfl (Qlj ud52 z0)<|.o (QL .k)<|.n) λ_ a w H=>?_;have H:=H.t8_4 [4,5,6,7,8,9,10,11];refine k3 _ _ ?_;clear k3 K3;have j2:∀gF a w,Done x_.Xa[i].Xb.length x_.Xa[i].Xb.length Qqs (dmk nilV [fzV,fzV]) (m6 5) gF->St M w0 111 [(14,ti (i:Int)),(13,ti (x_.Xa.length:Int)),(1,tv (m0 0)),(2,tv (m0 1))] [Qaq oW70 70 x_.Xa[i].Xb gF none,Qaq oK67 54 x_.Xa (dset x_.Xa.length g i (dmk (m6 5) [])) (some i),box ([ti x_.Version,tvs (dh g),tsl Qo x_.Xd,tsl Ql x_.Xc]) (m0 0),box (Qb.cs zz4) (m0 1)] a w->K2 a w:=by
   intro gF a w he H;have ed:Qaq oW70 70 x_.Xa[i].Xb gF none=oK67.lo x_.Xa[i] gF:=by
    rw[show oK67.lo x_.Xa[i] gF=deep dW70 70 x_.Xa[i].Xb gF from Qj0 he.agg];exact Qpc rfl (λj k hj=>by have hq:=he.upto j (Zc.1 hj).1;show ((Qe.cs k).set 6 _).set 7 _=((Qe.cs k).set 6 _).set 7 _;rw[QjZ hq.1,QjZ hq.2]) (λj k hj=>by have hq:=he.upto j (Zc.1 hj).1;show QaV [_,_]=QaV [_,_];rw[Qj0 hq.1,Qj0 hq.2])
   rw[ed] at H;replace H:=H.shutD (Qad hi) (QlL hi) (show oK67.cs x_.Xa[i] gF=oK67.cs x_.Xa[i] (ds (dset x_.Xa.length g i (dmk (m6 5) [])) i) by
    rw[QeW hi];show (Qp.cs _).set 3 _=(Qp.cs _).set 3 _;rw[QjZ he.agg];show (Qp.cs _).set 3 (tvs (dh gF))=_;rw[he.hdr];rfl)
   refine k2 _ _ ?_;refine wr mx [] H (λ_=>.o (Qab z0 .k)<|.q 0 rfl<|.n) λ_ a w H=>?_;have H:=H.t4_3 [1,2,3,4];rw[QnQ (ZW (Nat.le_of_lt hi) bK)] at H;exact k1 hi _ _ ⟨_,dg.step2 hi he.agg,H.pick [0,1,2,3]⟩
  clear k2 k1 j0;refine wp_block ?_;refine QnP x_.Xa[i].Xb.length (λj a w=>∃gF,Done x_.Xa[i].Xb.length j Qqs (dmk nilV [fzV,fzV]) (m6 5) gF/\St M w0 111 [(34,ti (j:Int)),(33,ti (x_.Xa[i].Xb.length:Int)),(4,tv (QaX (dh g) ((i:Int).toNat * 4))),(14,ti (i:Int)),(13,ti (x_.Xa.length:Int)),(1,tv (m0 0)),(2,tv (m0 1))] [Qaq oW70 70 x_.Xa[i].Xb gF none,Qaq oK67 54 x_.Xa (dset x_.Xa.length g i (dmk (m6 5) [])) (some i),box ([ti x_.Version,tvs (dh g),tsl Qo x_.Xd,tsl Ql x_.Xc]) (m0 0),box (Qb.cs zz4) (m0 1)] a w) ⟨_,Done.start,H.pick [1,0,2,4,5,6,7]⟩ (λj a w K4 hj hI k4=>?_);obtain⟨gF,dF,H⟩:=hI;refine wp_seq_k (λK5 k5=>?_);refine wr mx [] H (λ_=>.o (Q8 z0 z1)<|.n) λ_ a w H=>?_;have H:=H.t8_4 [0,1,2,3,4,5,6,7];refine k5 _ _ ?_;clear k5 K5;refine wp_seq_k (λK5 k5=>?_);refine wt H (λb=>?_) (λb=>?_)
  ·have hj:=QmB b;refine wp_skip (k5 _ _ ?_);clear k5 K5;refine wp_seq_k (λK5 k5=>?_);refine wp_block ?_;refine wp_seq_k (λK6 k6=>?_);refine wr mx [] H (λ_=>.q 1 rfl<|.o (Qc z0)<|.n) λ_ a w H=>?_;have H:=H.to [1,2,3,4,5,6,7,8,9] [_,_,_,_,_,_,_,_,_] [_,_,_,_] rfl rfl;refine k6 _ _ ?_;clear k6 K6;refine wp_seq_k (λK6 k6=>?_);have ez2:ds gF j=(dmk nilV [fzV,fzV]):=dF.rest j (Zp _) hj;replace H:=H.openZ hj;obtain⟨hs,hm⟩:=hFF j hj;have e0:(rSl rS).cs x_.Xa[i].Xb[j].Words=((oW70.cs x_.Xa[i].Xb[j] (ds gF j)).drop 6).take 1:=by rw[ez2];rfl
   have e1:∀v,oW70.cs x_.Xa[i].Xb[j] (dmk nilV [dmk v [],fzV])=splice (oW70.cs x_.Xa[i].Xb[j] (ds gF j)) 6 [tvs v]:=λv=>by rw[ez2];rfl
   refine QbA mixed [v1 13 (λx0=>own rS 9 x_.Xa[i].Xb[j].Words x0),v1 13 (λx0=>Qaq oW70 70 x_.Xa[i].Xb (dset x_.Xa[i].Xb.length gF j (dmk nilV [dmk x0 [],fzV])) (some j))] H (λm7=>.q 4 rfl<|.u [1] rfl rfl (QdC z0 (Qad hi))<|.u [1] rfl rfl (Qah Qaf z0 rfl (Qad hi))<|.u [1] rfl rfl (Qbt (QaA (R2:=rVal) (f:=(m6 5)) Qbe z0 (Qad hi) e6) (λ_ _ _ _ h=>h.1))<|.q 4 rfl<|.q 9 rfl<|.u [1] rfl rfl (QdC z0 (Qad hi))<|.u [1] rfl rfl (Qah Qaf z0 rfl (Qad hi))<|.u [1] rfl rfl (Qbt (QaA (R2:=rVal) (f:=(m6 5)) Qbe z0 (Qad hi) e6) (λ_ _ _ _ h=>h.1))<|.q 9 rfl<|.u [0] rfl rfl (Qal ud52 Q4 (.hd dF.hdr z1) z0 (Qad hj))<|.u [0] rfl rfl (Qah Qgw z0 rfl (Qad hj))<|.u [0] rfl rfl (QaA (R2:=(rSl rS)) (f:=x_.Xa[i].Xb[j].Words) Qhs z0 (Qad hj) e0)<|.m [] [4] rfl rfl rfl (Qq QuF (QhR.ok hs) (.cons (.of z0)<|.nil))<|.u [0] rfl rfl (Qal ud52 Q4 (.hd dF.hdr z10) z9 (Qad hj))<|.u [0] rfl rfl (Qah Qgw z0 rfl (Qad hj))<|.e [4] [0] [5] rfl rfl rfl rfl (QcQ (B:=own rS 9 x_.Xa[i].Xb[j].Words (m7 13)) (hv:=(m7 13)) (g2:=dmk nilV [dmk (m7 13) [],fzV]) (λ_ _ h=>Qdo h) Qov z0 z2 (Qad hj) (leb rfl) (e1 (m7 13)))<|.nil _ _) (by kernel_rfl) (λm7 a w H=>?_);replace H:St _ _ _ [_,_,_,_,_,_,_,_,_] [_,_,_,_,_] _ _:=(H.pick [16,17,18,19,20,21,22,23,24]).Xj [4,0,1,2,3] rfl;refine k6 _ _ ?_;clear k6 K6;have e2:(rSl rI).cs x_.Xa[i].Xb[j].Xf=((oW70.cs x_.Xa[i].Xb[j] (ds (dset x_.Xa[i].Xb.length gF j (dmk nilV [dmk (m7 13) [],fzV])) j)).drop 7).take 1:=by rw[QeW hj];rfl
   have e3:∀v,oW70.cs x_.Xa[i].Xb[j] (dmk nilV [dmk (m7 13) [],dmk v []])=splice (oW70.cs x_.Xa[i].Xb[j] (ds (dset x_.Xa[i].Xb.length gF j (dmk nilV [dmk (m7 13) [],fzV])) j)) 7 [tvs v]:=λv=>by rw[QeW hj];rfl
   refine QbA mixed [v1 13 (λx0=>own rI 3 x_.Xa[i].Xb[j].Xf x0),v1 13 (λx0=>Qaq oW70 70 x_.Xa[i].Xb (dset x_.Xa[i].Xb.length (dset x_.Xa[i].Xb.length gF j (dmk nilV [dmk (m7 13) [],fzV])) j (dmk nilV [dmk (m7 13) [],dmk x0 []])) (some j))] H (λm8=>.q 4 rfl<|.u [1] rfl rfl (QdC z0 (Qad hi))<|.u [1] rfl rfl (Qah Qaf z0 rfl (Qad hi))<|.u [1] rfl rfl (Qbt (QaA (R2:=rVal) (f:=(m6 5)) Qbe z0 (Qad hi) e6) (λ_ _ _ _ h=>h.1))<|.q 4 rfl<|.q 9 rfl<|.u [1] rfl rfl (QdC z0 (Qad hi))<|.u [1] rfl rfl (Qah Qaf z0 rfl (Qad hi))<|.u [1] rfl rfl (Qbt (QaA (R2:=rVal) (f:=(m6 5)) Qbe z0 (Qad hi) e6) (λ_ _ _ _ h=>h.1))<|.q 9 rfl<|.u [0] rfl rfl (Qal ud52 Q4 (.hd dF.hdr z1) z0 (Qad hj))<|.u [0] rfl rfl (Qah Qgx z0 rfl (Qad hj))<|.u [0] rfl rfl (QaA (R2:=(rSl rI)) (f:=x_.Xa[i].Xb[j].Xf) QbW z0 (Qad hj) e2)<|.m [] [5] rfl rfl rfl (Qq QuG (QiO.ok hm) (.cons (.of z0)<|.nil))<|.u [0] rfl rfl (Qal ud52 Q4 (.hd dF.hdr z10) z9 (Qad hj))<|.u [0] rfl rfl (Qah Qgx z0 rfl (Qad hj))<|.e [5] [0] [6] rfl rfl rfl rfl (QcQ (B:=own rI 3 x_.Xa[i].Xb[j].Xf (m8 13)) (hv:=(m8 13)) (g2:=dmk nilV [dmk (m7 13) [],dmk (m8 13) []]) (λ_ _ h=>Qdo h) Qjm z0 z2 (Qad hj) (leb rfl) (e3 (m8 13)))<|.nil _ _) (by kernel_rfl) (λm8 a w H=>?_);replace H:St _ _ _ [_,_,_,_,_,_,_,_,_] [_,_,_,_,_,_] _ _:=(H.pick [16,17,18,19,20,21,22,23,24]).Xj [3,4,5,0,1,2] rfl;refine k5 _ _ ?_;clear k5 K5;replace H:=St.shutN (D:=oW70) (g2:=dmk nilV [dmk (m7 13) [],dmk (m8 13) []]) (Qad hj) (QlL hj) (St.join (l:=[_,_]) H);refine wr mx [] H (λ_=>.o (Qab z2 .k)<|.q 0 rfl<|.n) λ_ a w H=>?_;have H:=H.to [1,2,3,4,5,6,7,8,9] [_,_,_,_,_,_,_,_,_] [_,_,_,_] rfl rfl;rw[QnQ (ZW (Nat.le_of_lt hj) bF)] at H;exact k4 hj _ _ ⟨_,dF.step2 hj ⟨rfl,rfl⟩,H.pick [0,3,4,5,6,7,8]⟩
  obtain rfl:j=x_.Xa[i].Xb.length:=Nat.le_antisymm hj (Nat.le_of_not_lt (by simpa using b));refine wp_exit ?_;exact j2 _ _ _ dF (H.pick [4,5,6,7])
 obtain rfl:i=x_.Xa.length:=Nat.le_antisymm hi (Nat.le_of_not_lt (by simpa using b));refine wp_exit ?_;exact j0 _ _ _ dg (H.pick [3,4])
theorem QmQ {x_ r:Qa} (h:QbM x_=some r):FnOk prog 41 [Qb.ty x_] [] (λ_=>[]) (λ_=>Qb.ty r):=
 (QhE.ok h).roC λx F F' w v hF hA hv=>by
  have h1:=hA _ (Zl ..)
  have h2:=hA _ (Zy _ (Zl ..))
  have h3:=hA _ (Zy _ (Zy _ (Zl ..)))
  obtain⟨us,rfl,hc⟩:=hv
  obtain⟨u0,us0,rfl,q0,c0⟩:=hc.inv
  obtain⟨u1,us1,rfl,q1,c1⟩:=c0.inv
  obtain⟨u2,us2,rfl,q2,c2⟩:=c1.inv
  obtain⟨u3,us3,rfl,q3,c3⟩:=c2.inv
  obtain rfl:=c3.inv0
  have e0:u1=dh (gh x 0):=q1.1
  have e1:u2=dh (gh x 1):=q2.1
  have e2:u3=gh x 2:=q3.1
  subst e0;subst e1;subst e2
  exact⟨_,rfl,.cons q0 (.cons (Qj7 hF h1.1 h1.2) (.cons (Qj7 hF h2.1 h2.2) (.cons (Qng hF h3.1 h3.2) .nil)))⟩
theorem Qhy {xs:List Qh} {g:Value}:Flat (deep dK67 54 xs g) (deep dF54 54 xs g):=Que (D:=dK67) (D':=dF54) rfl (λ_ _=>rfl) (λ_ _=>flat_own' (D:=dW70))
theorem Qtr {Γ:List (Nat×Ty)} {U:List Atom} {x:Qa} {g1 g3:Value} {y:Operand} (h:Fct Γ y (tagg ([ti x.Version,tvs (dh g1),tsl Qo x.Xd,tvs g3]))) (h1:deep dF54 54 x.Xa g1∈U) (h3:own Ql 62 x.Xc g3∈U):QbR Γ U y (Qb.ty x):=λF F' w a hF hA h0=>by
 have hv:=h F w a h0
 have k0:=hA _ h1
 have k1:=hA _ h3
 obtain⟨us,hu,hc⟩:=hv
 obtain⟨u0,us0,rfl,q0,c0⟩:=hc.inv
 obtain⟨u1,us1,rfl,q1,c1⟩:=c0.inv
 obtain⟨u2,us2,rfl,q2,c2⟩:=c1.inv
 obtain⟨u3,us3,rfl,q3,c3⟩:=c2.inv
 obtain rfl:=c3.inv0
 have e0:u1=dh g1:=q1.1
 have e1:u3=g3:=q3.1
 subst e0;subst e1
 exact⟨_,hu,.cons (Ty.keep _ hF (λ_ _=>rfl) q0) (.cons (Qj7 hF k0.1 k0.2) (.cons (Ty.keep _ hF (λ_ _=>rfl) q2) (.cons (Qng hF k1.1 k1.2) .nil)))⟩
theorem Qrr {r:Qa}:∀v:Value,Qfv (tagg ([ti r.Version,tvs (dh (gh v 0)),tvs (dh (gh v 1)),tvs (gh v 2)])):=λ_=>QvK (QaK Qbs (QaK QgW (QaK QgW (QaK QgW QgV))))
theorem Qrs {r:Qa}:∀v:Value,∀A∈[deep dK67 54 r.Xa (gh v 0),deep dL91 59 r.Xd (gh v 1),own Ql 62 r.Xc (gh v 2)],Qh0 A:=by
 have hS:∀(x:Str) (T:Ty),T∈rS.cs x->Qfv T:=λx=>QaK Qbs QgV;have hI:∀(x:Int) (T:Ty),T∈rI.cs x->Qfv T:=λx=>QaK Qbs QgV;intro v A hA;simp only[Zm,Zr,ZJ] at hA;rcases hA with rfl | rfl | rfl
 ·refine QlM (λx g=>QaK Qbs (QaK Qbs (QaK Qbs (QaK QgW QgV)))) (λx g=>QlM (λx g=>QaK Qbs (QaK Qbs (QaK Qbs (QaK Qbs (QaK Qbs (QaK Qbs (QaK QgW (QaK QgW QgV)))))))) (λx g=>Qoo (λA hA=>?_)));simp only[Zm,Zr,ZJ] at hA;rcases hA with rfl | rfl
  ·exact QiP hS
  exact QiP hI
 ·refine QlM (λx g=>QaK Qbs (QaK QgW (QaK QgW QgV))) (λx g=>Qoo (λA hA=>?_));simp only[Zm,Zr,ZJ] at hA;rcases hA with rfl | rfl
  ·exact QiP hS
  exact QiP (λx=>QaK Qbs (QaK Qbs QgV))
 exact QiP (λx=>QaK Qbs (QaK Qbs (QaK Qbs (QaK Qbs (QaK Qbs QgV)))))
def QdY (r_:Qm) (c0_:Qn):Option (Bool):=(some (r_.Xi==c0_.Xi))
instance Qnv:Spc2 prog 91 QdY (λr_ c0_=>[Ql.ty r_,tptr (Qv.cs c0_)]) tb:=.mk λ{r_ c0_ r} h=>by
 unfold QdY at h
 refine Fe func91 ntmps91 λM0 M w0 hpl=>?_
 refine QyV [0,3] ?_
 refine QyV [5] ?_
 exact QyZ h (·▸QyX hpl)
def QcJ (r_:Qm) (c0_:Qh) (c1_:Qd):Option (Bool):=(some ((r_.Xh==c0_.Xi)&&((r_.A==c1_.Xi)||(r_.B==c1_.Xi))))
instance Qlw:Spc3 prog 247 QcJ (λr_ c0_ c1_=>[Ql.ty r_,tptr (Qp.cs c0_),tptr (Qe.cs c1_)]) tb:=.mk λ{r_ c0_ c1_ r} h=>by
 unfold QcJ at h
 refine Fe func247 ntmps247 λM0 M w0 hpl=>?_
 refine QyV [0,3,4] ?_
 refine QyV [19] ?_
 exact QyZ h (·▸QyX hpl)
def QcC (x_:Qa) (p_:Qj):Option (Bool):=(idx x_.Xa p_.kind).bind λt0=>(idx t0.Xb p_.field).bind λt1=>(opt ((t1.Xh !=2)==false) (QaP x_.Xc (λx0=>QcJ x0 t0 t1)) default).bind λt2=>(if ((t1.Xh !=2)||t2)=true then (some false) else (Qz (λ(s0:Int)=>((if (decide (s0<(x_.Xa.length:Int)))=true then (idx x_.Xa s0).bind λt3=>(Qz (λ(s1:Int)=>((if (decide (s1<(t3.Xb.length:Int)))=true then (idx t3.Xb s1).bind λt4=>(opt (((t4.Xh==8)&&(t4.Of==t1.Xi))==true) (Qdh x_ s0 s1) default).bind λt5=>(if (((t4.Xh==8)&&(t4.Of==t1.Xi))&&(t5==p_.kind))=true then (some (.inr (.inr false))) else (some (.inl (i64.wrap (s1+1))))) else (some (.inr (.inl ())))):Option ((Int)⊕((Unit)⊕(Bool))))) (0:Int)).bind λe0=>(match e0 with | .inl _=>(some (.inl (i64.wrap (s0+1)))) | .inr p0=>(some (.inr (.inr p0)))) else (some (.inr (.inl ())))):Option ((Int)⊕((Unit)⊕(Bool))))) (0:Int)).bind λe1=>(match e1 with | .inl _=>(some true) | .inr p1=>(some p1)))
instance Qmf:Spc2 prog 245 QcC (λx_ p_=>[Qb.ty x_,Qi.ty p_]) tb:=.mk λ{x_ p_ r} h=>by
 unfold QcC at h
 refine Fe func245 ntmps245 λM0 M w0 hpl=>?_
 refine QyV [0,1] ?_
 have⟨t0,_,h⟩:=bs h
 refine Qy5 [v1 6 (λv0=>box (Qp.cs zz1) v0),v1 6 (λv0=>box (Qp.cs t0) v0)] [7,8] [6,7,8] λm0=>?_
 refine Qy9 (λ_ _ H=>((H.Xk 0 rfl).add 0 rfl (λ_ _ _ h=>h.2)).pick [0,3,4]) ?_
 have⟨t1,_,h⟩:=bs h
 refine Qy5 [v1 6 (λv0=>box (Qe.cs zz0) v0),v1 6 (λv0=>box (Qe.cs t1) v0)] [7,8] [6,7,8,9] λm1=>?_
 refine Qy9 (λ_ _ H=>((H.Xk 0 rfl).add 0 rfl (λ_ _ _ h=>h.2)).pick [0,3,4,5]) ?_
 have⟨_,_,h⟩:=bs h
 refine tIfs h [8,9,11,12] (λ_ h=>?_) (λ_ h=>?_)
 ·refine QyV [0] ?_
  exact QyZ h (·▸QyX hpl)
 refine QyY λK0 k0=>?_
 refine QyV [1,2,3,5,6,7] ?_
 have⟨e0,h0,h⟩:=bs h
 have J0:∀(p0:Unit),(.inl p0)=e0->To M w0 69 [] [] K0:=by
  intro p0 he;subst he;simp only at h;refine k0 <|QyV [0] ?_;exact QyZ h (·▸QyX hpl)
 have J1:∀(p1:Bool),(.inr p1)=e0->To M w0 69 [(4,tb p1)] [] (Ret prog f245 M0 [] w0 (λ_=>[]) (λ_=>tb r) .ret):=by
  intro p1 he;subst he;simp only at h;obtain rfl:=sj h;exact QyX hpl
 refine Qy1 <|Qzb h0 (λ(s0:Int)=>[(33,tsl Qp x_.Xa),(34,ti (x_.Xa.length:Int)),(35,ti s0),(6,tptr (Qe.cs t1)),(2,tptr (Qb.cs x_)),(3,tptr (Qi.cs p_))]) (λ(s0:Int)=>[]) [0,1,2,3,4,5] ?_;clear h;intro s0 o K1 h ho k1;refine QyV [0,1,2,3,4,5,6] ?_;refine QyY λ_ k2=>Qy0 h (λ_ h=>?_) (λ_ h=>?_)
 ·refine Qy2 <|k2 <|QyY λK2 k3=>Qy1 ?_;have⟨t2,_,h⟩:=bs h;refine Qy5 [v1 3 (λv0=>box (Qp.cs zz1) v0),v1 3 (λv0=>box (Qp.cs t2) v0)] [4,6] [3,4,6,7,8,9,10,11] λm2=>?_;refine Qy9 (λ_ _ H=>((H.Xk 0 rfl).add 0 rfl (λ_ _ _ h=>h.2)).pick [0,3,4,5,6,7,8,9]) ?_;refine QyV [1,2,3,5,6,7,8,9,10,11] ?_;have⟨e1,h1,h⟩:=bs h;have J2:∀(p2:Unit),(.inl p2)=e1->To M w0 69 [(33,tsl Qp x_.Xa),(34,ti (x_.Xa.length:Int)),(35,ti s0),(6,tptr (Qe.cs t1)),(2,tptr (Qb.cs x_)),(3,tptr (Qi.cs p_))] [] K2:=by
   intro p2 he;subst he;simp only at h;refine k3 <|Qy6 [1,2,3,4,5,6] ?_;exact Qy4 k1 ((sj h).symm) [1,2,0,3,4,5]
  have J3:∀(p3:Bool),(.inr p3)=e1->To M w0 69 [(4,tb p3)] [] (Ret prog f245 M0 [] w0 (λ_=>[]) (λ_=>tb r) .ret):=by
   intro p3 he;subst he;simp only at h;exact Qy4 J1 (ho _ (sj h).symm) [0]
  refine Qy1 <|Qzb h1 (λ(s1:Int)=>[(41,tsl Qe t2.Xb),(42,ti (t2.Xb.length:Int)),(43,ti s1),(7,ti s0),(33,tsl Qp x_.Xa),(34,ti (x_.Xa.length:Int)),(35,ti s0),(6,tptr (Qe.cs t1)),(2,tptr (Qb.cs x_)),(3,tptr (Qi.cs p_))]) (λ(s1:Int)=>[]) [0,1,2,3,4,5,6,7,8,9] ?_;clear h;intro s1 o K3 h ho k4;refine QyV [0,1,2,3,4,5,6,7,8,9,10] ?_;refine QyY λ_ k5=>Qy0 h (λ_ h=>?_) (λ_ h=>?_)
  ·refine Qy2 <|k5 <|QyY λ_ k6=>Qy1 ?_;have⟨t3,_,h⟩:=bs h;refine Qy5 [v1 3 (λv0=>box (Qe.cs zz0) v0),v1 3 (λv0=>box (Qe.cs t3) v0)] [4,6] [3,4,6,7,8,9,10,11,12,13,14,15] λm3=>?_;refine Qy9 (λ_ _ H=>((H.Xk 0 rfl).add 0 rfl (λ_ _ _ h=>h.2)).pick [0,3,4,5,6,7,8,9,10,11,12,13]) ?_;have⟨_,_,h⟩:=bs h;refine QyV [18,21,22,23,24,25,26,27,28,29,30] ?_;refine Qy0 h (λ_ h=>?_) (λ_ h=>?_)
   ·refine QyV [0] ?_;refine Qzd ?_;exact Qy4 J3 (ho _ (sj h).symm) [0]
   refine Qy2 <|k6 <|Qy6 [1,3,4,5,6,7,8,9,10,11] ?_;exact Qy4 k4 ((sj h).symm) [1,2,0,3,4,5,6,7,8,9]
  refine Qy7 <|Qy4 J2 (ho _ (sj h).symm) [5,6,7,8,9,10]
 refine Qy7 <|Qy4 J0 (ho _ (sj h).symm) []
def QbC (n_:Int) (least_:Int) (most_:Int):Option (Bool):=(some ((decide (n_>=least_))&&(decide (n_<=most_))))
instance Qec:Spc3 prog 50 QbC (λn_ least_ most_=>[ti n_,ti least_,ti most_]) tb:=.mk λ{n_ least_ most_ r} h=>by
 unfold QbC at h
 refine Fe func50 ntmps50 λM0 M w0 hpl=>?_
 refine QyV [1,2,3] ?_
 refine QyV [8] ?_
 exact QyZ h (·▸QyX hpl)
def Qb7 (x_:Qa) (o_:Qn) (p_:Qj):Option (Int):=(QcC x_ p_).bind λt0=>(if (!t0)=true then (some (13:Int)) else (QbC o_.N 1 1048576).bind λt1=>(opt ((!t1)==false) (QbC o_.M (-1048576) 1048576) default).bind λt2=>(if ((!t1)||(!t2))=true then (some (5:Int)) else (some (0:Int))))
instance Qnw:Spc3 prog 231 Qb7 (λx_ o_ p_=>[Qb.ty x_,Qv.ty o_,Qi.ty p_]) ti:=.mk λ{x_ o_ p_ r} h=>by
 unfold Qb7 at h
 refine Fe func231 ntmps231 λM0 M w0 hpl=>?_
 refine QyV [0,1,2] ?_
 refine QyY λ_ k0=>?_
 refine Qy1 ?_
 have⟨_,_,h⟩:=bs h
 refine QyV [4,6] ?_
 refine Qy0 h (λ_ h=>?_) (λ_ h=>?_)
 ·refine QyV [0] ?_
  exact QyZ h (·▸QyX hpl)
 have⟨_,_,_,_,h⟩:=bs2 h
 refine QyV [10] ?_
 refine Qy0 h (λ_ h=>?_) (λ_ h=>?_)
 ·refine QyV [0] ?_
  exact QyZ h (·▸QyX hpl)
 refine Qy2 ?_
 refine k0 ?_
 refine QyV [0] ?_
 exact QyZ h (·▸QyX hpl)
def QdZ (x_:Qa) (o_:Qn) (p_:Qj):Option (Int):=(idx x_.Xa p_.kind).bind λt0=>(idx t0.Xb p_.field).bind λt1=>(if (t1.Xh !=3)=true then (some (13:Int)) else (some (0:Int)))
instance Qnx:Spc3 prog 235 QdZ (λx_ o_ p_=>[Qb.ty x_,Qv.ty o_,Qi.ty p_]) ti:=.mk λ{x_ o_ p_ r} h=>by
 unfold QdZ at h
 refine Fe func235 ntmps235 λM0 M w0 hpl=>?_
 refine QyV [0,2] ?_
 have⟨_,_,_,_,h⟩:=bs2 h
 refine tIfs h [12] (λ_ h=>?_) (λ_ h=>?_)
 ·refine QyV [0] ?_
  exact QyZ h (·▸QyX hpl)
 refine QyV [0] ?_
 exact QyZ h (·▸QyX hpl)
def QdG (x_:Qa) (o_:Qn) (p_:Qj):Option (Int):=(QbC o_.N 0 65536).bind λt0=>(opt ((!t0)==false) (QbC o_.M 0 65536) default).bind λt1=>(if ((!t0)||(!t1))=true then (some (5:Int)) else (some (0:Int)))
instance QmR:Spc3 prog 242 QdG (λx_ o_ p_=>[Qb.ty x_,Qv.ty o_,Qi.ty p_]) ti:=.mk λ{x_ o_ p_ r} h=>by
 unfold QdG at h
 refine Fe func242 ntmps242 λM0 M w0 hpl=>?_
 refine QyV [1] ?_
 have⟨_,_,_,_,h⟩:=bs2 h
 refine tIfs h [9] (λ_ h=>?_) (λ_ h=>?_)
 ·refine QyV [0] ?_
  exact QyZ h (·▸QyX hpl)
 refine QyV [0] ?_
 exact QyZ h (·▸QyX hpl)
def Q0 (i:Int):Option Qs:=if i=0 then some (Qs.mk true false false none (some 222) (some 223) (some 224)) else if i=1 then some (Qs.mk true true false none (some 225) (some 227) none) else if i=2 then some (Qs.mk true true false none (some 229) none (some 230)) else if i=3 then some (Qs.mk true true false (some 231) (some 232) (some 233) (some 234)) else if i=4 then some (Qs.mk true true false (some 235) (some 236) none (some 237)) else if i=5 then some (Qs.mk false false true none (some 238) none (some 240)) else if i=6 then some (Qs.mk true false false (some 242) (some 243) none (some 230)) else none
theorem QmS (i:Int):(QbF Qh2 i).isSome=(Q0 i).isSome/\∀F w,(QN.ty ((Q0 i).getD (Qs.mk false false false none none none none))).ok F w ((QbF Qh2 i).getD (.agg #[(.bool false),(.bool false),(.bool false),.nilFunc,.nilFunc,.nilFunc,.nilFunc])):=by
 unfold Q0;by_cases h0:i=0
 ·subst h0;exact⟨rfl,λF w=>⟨_,rfl,.cons rfl (.cons rfl (.cons rfl (.cons rfl (.cons rfl (.cons rfl (.cons rfl (.nil)))))))⟩⟩
 by_cases h1:i=1
 ·subst h1;exact⟨rfl,λF w=>⟨_,rfl,.cons rfl (.cons rfl (.cons rfl (.cons rfl (.cons rfl (.cons rfl (.cons rfl (.nil)))))))⟩⟩
 by_cases h2:i=2
 ·subst h2;exact⟨rfl,λF w=>⟨_,rfl,.cons rfl (.cons rfl (.cons rfl (.cons rfl (.cons rfl (.cons rfl (.cons rfl (.nil)))))))⟩⟩
 by_cases h3:i=3
 ·subst h3;exact⟨rfl,λF w=>⟨_,rfl,.cons rfl (.cons rfl (.cons rfl (.cons rfl (.cons rfl (.cons rfl (.cons rfl (.nil)))))))⟩⟩
 by_cases h4:i=4
 ·subst h4;exact⟨rfl,λF w=>⟨_,rfl,.cons rfl (.cons rfl (.cons rfl (.cons rfl (.cons rfl (.cons rfl (.cons rfl (.nil)))))))⟩⟩
 by_cases h5:i=5
 ·subst h5;exact⟨rfl,λF w=>⟨_,rfl,.cons rfl (.cons rfl (.cons rfl (.cons rfl (.cons rfl (.cons rfl (.cons rfl (.nil)))))))⟩⟩
 by_cases h6:i=6
 ·subst h6;exact⟨rfl,λF w=>⟨_,rfl,.cons rfl (.cons rfl (.cons rfl (.cons rfl (.cons rfl (.cons rfl (.cons rfl (.nil)))))))⟩⟩
 simp only[QbF,Qh2,Zb h0,Zb h1,Zb h2,Zb h3,Zb h4,Zb h5,Zb h6];exact⟨rfl,λF w=>⟨_,rfl,.cons rfl (.cons rfl (.cons rfl (.cons rfl (.cons rfl (.cons rfl (.cons rfl (.nil)))))))⟩⟩
theorem QuQ {Γ:List (Nat×Ty)} {d:Option Tmp} {ty:TypeId} {pos:String} {af:Array Edge} {g:Option (Nat×Bool)} {x y:Operand} {i:Int} (hx:Fct Γ x Qq3) (hi:Fct Γ y (tv (.int .i64 i))):
  OpJ prog ⟨d,.lookup 119 x y true,ty,pos,af,g⟩ Γ [] [] (λ_=>[]) (λ_=>ttup [QN.ty ((Q0 i).getD (Qs.mk false false false none none none none)),tv (.bool (Q0 i).isSome)]):=by
 have h:=QqR (P:=prog) (Γ:=Γ) (d:=d) (ty:=ty) (pos:=pos) (af:=af) (g:=g) (V:=λ_=>QN.ty ((Q0 i).getD (Qs.mk false false false none none none none))) underlying119 ud3 QzB hx hi (QmS i).2;rw[(QmS i).1] at h;exact h
theorem QoI {Γ:List (Nat×Ty)} {d:Option Tmp} {ty:TypeId} {pos:String} {af:Array Edge} {g:Option (Nat×Bool)} {x y:Operand} {i:Int} (hx:Fct Γ x Qq3) (hi:Fct Γ y (tv (.int .i64 i))):
  OpJ prog ⟨d,.lookup 119 x y false,ty,pos,af,g⟩ Γ [] [] (λ_=>[]) (λ_=>QN.ty ((Q0 i).getD (Qs.mk false false false none none none none))):=by
 have h:=Qui (P:=prog) (Γ:=Γ) (d:=d) (ty:=ty) (pos:=pos) (af:=af) (g:=g) (V:=λ_=>QN.ty ((Q0 i).getD (Qs.mk false false false none none none none))) underlying119 ud3 QzB hx hi (QmS i).2;exact h
def Qke (n:Nat) (x:Qa) (o:Qn) (p:Qj):Option Int:=if n=231 then Qb7 x o p else if n=235 then QdZ x o p else if n=242 then QdG x o p else none
theorem Qr4 {n:Nat} {x:Qa} {o:Qn} {p:Qj} {r:Int} (h:Qke n x o p=some r):QB prog n:=by
 unfold Qke at h;by_cases h231:n=231
 ·subst h231;exact QxH
 rw[Zb h231] at h;by_cases h235:n=235
 ·subst h235;exact QxL
 rw[Zb h235] at h;by_cases h242:n=242
 ·subst h242;exact QxP
 rw[Zb h242] at h;cases h
theorem QuR {n:Nat} {x:Qa} {o:Qn} {p:Qj} {r:Int} (h:Qke n x o p=some r):FnOk prog n [Qb.ty x,Qv.ty o,Qi.ty p] [] (λ_=>[]) (λ_=>ti r):=by
 unfold Qke at h;by_cases h231:n=231
 ·subst h231;exact Qnw.ok h
 rw[Zb h231] at h;by_cases h235:n=235
 ·subst h235;exact Qnx.ok h
 rw[Zb h235] at h;by_cases h242:n=242
 ·subst h242;exact QmR.ok h
 rw[Zb h242] at h;cases h
def QaR (x_:Qa) (o_:Qn):Option (Qs×Qj×Int):=(if (!(Q0 o_.Op).isSome)=true then (some (((Q0 o_.Op).getD (Qs.mk false false false none none none none)),zz6,(1:Int))) else (if (((Q0 o_.Op).getD (Qs.mk false false false none none none none))).rule=true then (Qbh x_.Xc (λx0=>QdY x0 o_)).bind λt0=>(if (decide (t0<0))=true then (some (((Q0 o_.Op).getD (Qs.mk false false false none none none none)),(Qj.mk (-1) (-1) t0),(12:Int))) else (idx x_.Xc t0).bind λt1=>(QbB x_ t1.Xh).bind λt2=>(some (((Q0 o_.Op).getD (Qs.mk false false false none none none none)),(Qj.mk t2 (-1) t0),(0:Int)))) else (QbB x_ o_.Xh).bind λt3=>((if ((decide (t3>=0))&&(((Q0 o_.Op).getD (Qs.mk false false false none none none none))).field)=true then (idx x_.Xa t3).bind λt4=>(Qbk t4 o_.Field).bind λt5=>(some (Qj.mk t3 t5 (-1))) else (some (Qj.mk t3 (-1) (-1))))).bind λp0=>(if ((decide (p0.kind<0))||((((Q0 o_.Op).getD (Qs.mk false false false none none none none))).field&&(decide (p0.field<0))))=true then (some (((Q0 o_.Op).getD (Qs.mk false false false none none none none)),p0,(12:Int))) else (if (!(((Q0 o_.Op).getD (Qs.mk false false false none none none none))).wrong.isNone)=true then ((((Q0 o_.Op).getD (Qs.mk false false false none none none none))).wrong).bind λf31=>(Qke f31 x_ o_ p0).bind λt6=>(some (((Q0 o_.Op).getD (Qs.mk false false false none none none none)),p0,t6)) else (some (((Q0 o_.Op).getD (Qs.mk false false false none none none none)),p0,(0:Int)))))))
instance QoJ:SpcS prog 71 (∀{x_:Qa} {o_:Qn} {r:Qs×Qj×Int},QaR x_ o_=some r->FnOk prog 71 [Qb.ty x_,Qv.ty o_] [glo] (λ_=>[]) (λ_=>ttup [QN.ty r.1,Qi.ty r.2.1,ti r.2.2])):=.mk λ{x_ o_ r} h=>by
 unfold QaR at h
 refine Fe func71 ntmps71 λM0 M w0 hpl=>?_
 refine Qy5 [v1 2 (λv0=>box (QN.cs (Qs.mk false false false none none none none)) v0),v1 3 (λv0=>box (Qi.cs zz6) v0)] [3,4] [0,1,2,3] λm0=>?_
 intro a w H
 refine sr mx [v1 7 (λv0=>box (QN.cs (Qs.mk false false false none none none none)) v0),v1 7 (λv0=>box (QN.cs ((Q0 o_.Op).getD (Qs.mk false false false none none none none))) v0)] H (λ_=>.u [0] rfl rfl (QlJ (R:=Qnd Qh2) (u:=()) QnR Qs3 rfl)<|.o (Qg Qnj z2)<|.o (Qf (u:=o_.Op) tok3 z0 rfl)<|.o (QuQ z2 z0)<|.q 0 rfl<|.o (QQ z0 rfl)<|.o (QQ z1 rfl)<|.m [] [3] rfl rfl rfl (QV (R:=QN) (a:=(Qs.mk false false false none none none none)) QbI QmC)<|.e [] [3] [4] rfl rfl rfl rfl (QG (R:=QN) (a:=((Q0 o_.Op).getD (Qs.mk false false false none none none none))) QbI z0 z2 (leb rfl))<|.o (Qc z1)<|.n) λ_ a w H=>?_
 replace H:St _ _ _ [_,_,_,_,_,_] [_,_,_] _ _:=((((H.pick [7,8,9,10,11,12]).Xj [3,0,1,2] rfl).Xk 0 rfl).add 0 rfl (λ_ _ _ h=>h.2)).pick [0,3,4,5,6,7]
 refine Qze H ?_
 refine tIfs h [1,2,4,5,6,7] (λ_ h=>?_) (λ_ h=>?_)
 ·refine Qy5 [v0 (box (QN.cs ((Q0 o_.Op).getD (Qs.mk false false false none none none none))) (m0 2)),v0 (box (Qi.cs zz6) (m0 3))] [3,4] [2,7,8] λm1=>?_
  exact QyZ h (·▸QyX hpl)
 refine Qy5 [v1 1 (λv0=>box (Qi.cs zz6) v0),v1 1 (λv0=>box (Qi.cs (Qj.mk (-1:Int) (-1:Int) (-1:Int))) v0)] [2,3] [1,3,4,5,6,7] λm2=>?_
 refine tIfs h [1,2,3,4,5,6,7] (λ_ h=>?_) (λ_ h=>?_)
 ·have⟨t0,_,h⟩:=bs h
  refine Qy5 [v0 (box (Qi.cs (Qj.mk (-1:Int) (-1:Int) t0)) (m2 1))] [6] [6,7,8,10,11] λm3=>?_
  refine tIfs h [2,3,4,5,6,7] (λ_ h=>?_) (λ_ h=>?_)
  ·refine Qy5 [v0 (box (QN.cs ((Q0 o_.Op).getD (Qs.mk false false false none none none none))) (m0 2)),v0 (box (Qi.cs (Qj.mk (-1:Int) (-1:Int) t0)) (m0 3))] [3,4] [2,7,8] λm4=>?_
   refine Qy9 (λ_ _ H=>H.Xj [0,2,3] rfl) ?_
   exact QyZ h (·▸QyX hpl)
  have⟨_,_,t1,_,h⟩:=bs2 h
  refine Qy5 [v0 (box (Qi.cs (Qj.mk t1 (-1:Int) t0)) (m2 1))] [11] [11,12,14,15] λm5=>?_
  refine Qy5 [v0 (box (QN.cs ((Q0 o_.Op).getD (Qs.mk false false false none none none none))) (m0 2)),v0 (box (Qi.cs (Qj.mk t1 (-1:Int) t0)) (m0 3))] [3,4] [2,5,6] λm6=>?_
  refine Qy9 (λ_ _ H=>H.Xj [0,2,3] rfl) ?_
  exact QyZ h (·▸QyX hpl)
 have⟨t2,_,h⟩:=bs h
 refine Qy5 [v0 (box (Qi.cs (Qj.mk t2 (-1:Int) (-1:Int))) (m2 1))] [6] [6,7,8,9,10,11] λm7=>?_
 refine QyY λK0 k0=>?_
 refine QyV [6,7,8,9,10,11,12] ?_
 have⟨p0,h0,h⟩:=bs h
 have J0:To M w0 95 [(9,tv (m2 1)),(7,tptr (QN.cs ((Q0 o_.Op).getD (Qs.mk false false false none none none none)))),(2,tptr (Qb.cs x_)),(3,tptr (Qv.cs o_)),(4,tv (m0 2)),(5,tv (m0 3))] [glo,box (QN.cs (Qs.mk false false false none none none none)) (m0 2),box (Qi.cs zz6) (m0 3),box (Qi.cs p0) (m2 1)] K0:=by
  refine k0 <|tIfs h [11,12,13,14,15,16,17] (λ_ h=>?_) (λ_ h=>?_)
  ·refine Qy5 [v0 (box (QN.cs ((Q0 o_.Op).getD (Qs.mk false false false none none none none))) (m0 2)),v0 (box (Qi.cs p0) (m0 3))] [3,4] [2,8,9] λm8=>?_;refine Qy9 (λ_ _ H=>H.Xj [0,2,3] rfl) ?_;exact QyZ h (·▸QyX hpl)
  refine QyY λ_ k1=>?_;intro a w H;refine sr mx [] H (λ_=>.o (Qg Qre z2)<|.o (Qf (u:=(((Q0 o_.Op).getD (Qs.mk false false false none none none none))).wrong) Qq7 z0 rfl)<|.o (Qv0 underlying113 z0)<|.n) λ_ a w H=>?_;have H:=H.t7_4 [2,4,5,6,7,8,9];refine Qze H ?_;refine Qy0 h (λ_ h=>?_) (λ_ h=>?_)
  ·refine QyY λ_ k2=>?_;have⟨f31,hf31,t3,h1,h⟩:=bs2 h;intro a w H;refine wr mx [v0 (box (QN.cs ((Q0 o_.Op).getD (Qs.mk false false false none none none none))) (m0 2)),v0 (box (Qi.cs p0) (m0 3))] H (λ_=>.o (Qw QbI z2)<|.u [3] rfl rfl (Qbm (R:=Qi) (u:=p0) QaB z2 rfl)<|.o (Qg Qre z4)<|.o (Qf (u:=(((Q0 o_.Op).getD (Qs.mk false false false none none none none))).wrong) Qq7 z0 rfl)<|.o (Qw QH z7)<|.o (Qw Qde z9)<|.u [3] rfl rfl (Qbm (R:=Qi) (u:=p0) QaB z7 rfl)<|.o (Qcz (Qr4 h1) (QuR h1) (.fidO hf31 z3) (.cons (.of z2)<|.cons (.of z1)<|.cons (.of z0)<|.nil))<|.e [] [1] [4] rfl rfl rfl rfl (QG (R:=QN) (a:=((Q0 o_.Op).getD (Qs.mk false false false none none none none))) QbI z13 z7 (leb rfl))<|.e [] [2] [5] rfl rfl rfl rfl (QG (R:=Qi) (a:=p0) QaB z14 z6 (leb rfl))<|.o (Qc z0)<|.n) λ_ a w H=>?_;replace H:St _ _ _ [_,_,_] [_,_,_] _ _:=(H.pick [8,14,15]).Xj [0,2,3] rfl;refine Qzh H ?_;refine k2 <|QyZ h (·▸QyX hpl)
  refine Qy2 <|k1 <|Qy5 [v0 (box (QN.cs ((Q0 o_.Op).getD (Qs.mk false false false none none none none))) (m0 2)),v0 (box (Qi.cs p0) (m0 3))] [3,4] [2,8,9] λm9=>?_;refine Qy9 (λ_ _ H=>H.Xj [0,2,3] rfl) ?_;exact QyZ h (·▸QyX hpl)
 replace h:=h0;clear h0;refine Qy0 h (λ_ h=>?_) (λ_ h=>?_)
 ·have⟨_,_,t4,_,h⟩:=bs2 h;refine Qza [v0 (box (Qi.cs (Qj.mk t2 t4 (-1:Int))) (m2 1))] [11] [11,12,13,14,15,16] λm10=>?_;obtain rfl:=sj h;exact Qy3 J0 [0,1,2,3,4,5]
 refine Qy2 ?_;obtain rfl:=sj h;exact Qy3 J0 [1,2,3,4,5,6]
def Qci (x_:Qa) (o_:Qn) (p_:Qj):Option (Qa):=(idx x_.Xa p_.kind).bind λr2=>(rm (r2.Xb.length+[(Qd.mk o_.Xi ([]:Str) ([]:Str) 2 o_.N o_.M ([]:(List Str)) ([]:(List Int)))].length)).bind λ_=>(setAt x_.Xa p_.kind { r2 with Xb:=(r2.Xb++[(Qd.mk o_.Xi ([]:Str) ([]:Str) 2 o_.N o_.M ([]:(List Str)) ([]:(List Int)))]) }).bind λm8=>(some (Qa.mk x_.Version m8 x_.Xd x_.Xc))
instance QmT:SpcS prog 222 (∀{q0:Value} {vh0_1:Value} {vh0_3:Value} {x_:Qa} {o_:Qn} {p_:Qj} {r:Qa},Qci x_ o_ p_=some r->FnOk prog 222 [tv q0,Qv.ty o_,Qi.ty p_] [box ([ti x_.Version,tvs (dh vh0_1),tsl Qo x_.Xd,tvs vh0_3]) q0,deep dF54 54 x_.Xa vh0_1,own Ql 62 x_.Xc vh0_3] (λ_=>[box (Qb.cs r) q0]) (λ_=>ttup [])):=.mk λ{q0 vh0_1 vh0_3 x_ o_ p_ r} h=>by
 unfold Qci at h
 refine Fe func222 ntmps222 λM0 M w0 hpl=>?_
 refine QyV [0,1,2] ?_
 have⟨r2,h0,h⟩:=bs h
 refine Qy9 (As'':=[own Qe 70 r2.Xb (dh (ds vh0_1 (p_.kind).toNat)),Qaq dF54 54 x_.Xa vh0_1 (some (p_.kind).toNat),box ([ti x_.Version,tvs (dh vh0_1),tsl Qo x_.Xd,tvs vh0_3]) q0,own Ql 62 x_.Xc vh0_3]) (λ_ _ H=>(H.Xj [1,0,2] rfl).openD h0) ?_
 have⟨_,h1,m8,hm8,h⟩:=bs2 h
 intro a w H
 refine wr mx [v1 23 (λv0=>own Qe 70 (r2.Xb++[(Qd.mk o_.Xi ([]:Str) ([]:Str) (2:Int) o_.N o_.M ([]:(List Str)) ([]:(List Int)))]) v0),v1 23 (λv0=>Qaq dF54 54 x_.Xa (dset (x_.Xa).length vh0_1 (p_.kind).toNat (dmk v0 [])) (some (p_.kind).toNat))] H (λm0=>.q 2 rfl<|.u [2] rfl rfl (Qa5 z0)<|.u [2] rfl rfl (QC QZ z0)<|.u [2] rfl rfl (QX (u:=(dh vh0_1)) Qa7 z0 rfl)<|.o (Qg Qa1 z5)<|.o (Qf (u:=p_.kind) tok3 z0 rfl)<|.q 8 rfl<|.u [2] rfl rfl (Qa5 z0)<|.u [2] rfl rfl (QC QZ z0)<|.u [2] rfl rfl (QX (u:=(dh vh0_1)) Qa7 z0 rfl)<|.o (Qg Qa1 z11)<|.o (Qf (u:=p_.kind) tok3 z0 rfl)<|.u [1] rfl rfl (Qal ud23 Q6 z2 z0 h0)<|.u [1] rfl rfl (Qah Qaf z0 rfl h0)<|.u [1] rfl rfl (Qbt (QaA (R2:=rVal) (f:=dh (ds vh0_1 (p_.kind).toNat)) Qbe z0 h0 rfl) (λ_ _ _ _ h=>h.1))<|.o (Qg Qlp z15)<|.o (Qf (u:=o_.Xi) tok9 z0 rfl)<|.o (Qg Qgy z17)<|.o (Qf (u:=o_.N) tok3 z0 rfl)<|.o (Qg Qiq z19)<|.o (Qf (u:=o_.M) tok3 z0 rfl)<|.p (T:=Qe.ty (Qd.mk o_.Xi ([]:Str) ([]:Str) (2:Int) o_.N o_.M ([]:(List Str)) ([]:(List Int)))) rfl (QaD ud70 pl70 zv70 zc70 (.cons (R:=rS) (u:=o_.Xi) rfl z4 (leb rfl)<|.cons (R:=rI) (u:=(2:Int)) rfl .k (leb rfl)<|.cons (R:=rI) (u:=o_.N) rfl z2 (leb rfl)<|.cons (R:=rI) (u:=o_.M) rfl z0 (leb rfl)<|.nil _))<|.o (QK (R:=Qe) (us:=[(Qd.mk o_.Xi ([]:Str) ([]:Str) (2:Int) o_.N o_.M ([]:(List Str)) ([]:(List Int)))]) ud52 Q4 (.cons z0<|.nil _) rfl (leb rfl))<|.e [] [0] [4] rfl rfl rfl rfl (QS (R:=Qe) ud52 Q4 (leb rfl) z8 z0 h1)<|.u [1] rfl rfl (Qal ud23 Q6 z20 z18 h0)<|.u [1] rfl rfl (Qah Qaf z0 rfl h0)<|.e [4] [1] [5] rfl rfl rfl rfl (QcQ (B:=own Qe 70 (r2.Xb++[(Qd.mk o_.Xi ([]:Str) ([]:Str) (2:Int) o_.N o_.M ([]:(List Str)) ([]:(List Int)))]) (m0 23)) (g2:=(dmk (m0 23) [])) (λ_ _ h=>Qdo h) Qbe z0 z2 h0 (leb rfl) rfl)<|.n) λm0 a w H=>?_
 replace H:St _ _ _ [_,_,_] [_,_,_] _ _:=((H.pick [3,9,28]).Xj [2,3,0,1] rfl).shutN (D:=dF54) (y:={ r2 with Xb:=(r2.Xb++[(Qd.mk o_.Xi ([]:Str) ([]:Str) (2:Int) o_.N o_.M ([]:(List Str)) ([]:(List Int)))]) }) (g2:=(dmk (m0 23) [])) h0 hm8
 replace H:St _ _ _ [_] [_,_] _ _:=((H.pick [2]).Xj [0,1,2] rfl).shareCD 1 rfl
 replace H:St _ _ _ [_] [_] _ _:=((H.pick [0]).Xj [1,0] rfl).Xl 3 rfl
 refine Qzh H ?_
 obtain rfl:=sj h
 exact QBP undef [0] hpl
def Qdi (s_:List Qd) (i_ j_:Int):Option (List Qd):=if 0<=i_/\i_<j_/\j_<=s_.length then some (s_.take i_.toNat++s_.drop j_.toNat) else none
instance Qk3:SpcS prog 226 (∀{v_:Value} {s_ r:List Qd} {i_ j_:Int},Qdi s_ i_ j_=some r->FnOk prog 226 [tv v_,ti i_,ti j_] [own Qe 70 s_ v_] (λx=>[own Qe 70 r x]) (λx=>tv x)):=.mk λ{v_ s_ r i_ j_} h=>by
 unfold Qdi at h
 split at h
 case isFalse=>cases h
 rename_i hl
 obtain⟨hi,hij,hj⟩:=hl
 obtain rfl:=sj h
 clear h
 have hi0:sub s_ 0 i_=some (s_.take i_.toNat):=by unfold sub;rw[Ze ⟨ZF _,hi,by omega⟩];simp
 have hj0:sub s_ j_ s_.length=some (s_.drop j_.toNat):=by unfold sub;rw[Ze ⟨by omega,hj,ZF _⟩,Zt,ZI (by rw[ZR];exact Zp _)]
 refine fe func226 ntmps226 λM0 M w0 a hpl H=>?_
 refine wp_seq_k (λK0 k0=>?_)
 refine wr mx [] H (λ_=>.o (Qc .k)<|.n) λ_ a w H=>?_
 have H:=H.t3_1 [1,2,3]
 refine k0 _ _ ?_
 clear k0 K0
 refine wp_seq_k (λK0 k0=>?_)
 refine wr mx [] H (λ_=>.q 0 rfl<|.q 2 rfl<|.q 4 rfl<|.q 3 rfl<|.u [0] rfl rfl (Qdn ud52 z0)<|.u [0] rfl rfl (Qsu (R:=Qe) ud52 Q4 z4 z3 z2 z0 hi (Int.le_of_lt hij) hj (ZF _))<|.n) λ_ a w H=>?_
 have H:=H.t3_1 [6,7,8]
 refine k0 _ _ ?_
 clear k0 K0
 refine wp_seq_k (λK0 k0=>?_)
 refine wp_seq_k (λK1 k1=>?_)
 refine wr mx [] H (λ_=>.q 1 rfl<|.q 3 rfl<|.o (Qau z1 z0)<|.n) λ_ a w H=>?_
 have H:=H.t4_1 [2,3,4,5]
 refine k1 _ _ ?_
 clear k1 K1
 refine wt H (λb=>absurd b (by simp;omega)) (λb=>?_)
 clear b
 refine wp_skip (k0 _ _ ?_)
 clear k0 K0
 refine wp_seq_k (λK0 k0=>?_)
 have H:=H.t3_1 [1,2,3]
 refine wr mx [] H (λ_=>.q 0 rfl<|.u [0] rfl rfl (Qdn ud52 z0)<|.o (Qc z0)<|.n) λ_ a w H=>?_
 have H:=H.t4_1 [2,3,4,5]
 refine k0 _ _ ?_
 clear k0 K0
 refine wp_seq_k (λK0 k0=>?_)
 refine wr mx [v0 (own Qe 70 ((s_.take i_.toNat)++(s_.drop j_.toNat)++s_.drop (i_.toNat+(s_.drop j_.toNat).length)) v_)] H (λ_=>.q 1 rfl<|.q 3 rfl<|.u [0] rfl rfl (Qoc (R:=Qe) ud52 Q4 z1 (.no _) (.op z0) hi0)<|.q 4 rfl<|.q 7 rfl<|.u [0] rfl rfl (Qoc (R:=Qe) ud52 Q4 z1 (.op z0) (.no _) hj0)<|.e [] [0] [1] rfl rfl rfl rfl (Qon (R:=Qe) ud52 Q4 z3 z0 hi0 hj0 (Int.le_of_lt hij) (by omega))<|.o (Qc z0)<|.n) λ_ a w H=>?_
 have H:=H.t2_1 [7,8]
 refine k0 _ _ ?_
 clear k0 K0
 have hfl:((s_.take i_.toNat)++(s_.drop j_.toNat)++s_.drop (i_.toNat+(s_.drop j_.toNat).length)).length=s_.length:=by rw[Zd,Zd,ZE,ZR,ZR];omega
 have hn0:sub ((s_.take i_.toNat)++(s_.drop j_.toNat)++s_.drop (i_.toNat+(s_.drop j_.toNat).length)) 0 (i_+((s_.drop j_.toNat).length:Int))=some ((s_.take i_.toNat)++(s_.drop j_.toNat)):=by
  unfold sub;rw[Ze ⟨ZF _,by omega,by rw[hfl,ZR];omega⟩];simp only[Int.toNat_zero,drop_zero,Nat.sub_zero];rw[take_left' (by rw[Zd,ZE];omega)]
 obtain⟨zs,hzs⟩:∃zs,sub ((s_.take i_.toNat)++(s_.drop j_.toNat)++s_.drop (i_.toNat+(s_.drop j_.toNat).length)) (i_+((s_.drop j_.toNat).length:Int)) (((s_.take i_.toNat)++(s_.drop j_.toNat)++s_.drop (i_.toNat+(s_.drop j_.toNat).length)).length:Int)=some zs:=⟨_,by unfold sub;rw[Ze ⟨by omega,by rw[hfl,ZR];omega,ZF _⟩]⟩;have h0:0<((s_.take i_.toNat)++(s_.drop j_.toNat)++s_.drop (i_.toNat+(s_.drop j_.toNat).length)).length:=by rw[hfl];omega
 rw[<-hfl] at H;refine wp_seq_k (λK0 k0=>?_);refine wr mx [v0 (own Qe 70 (((s_.take i_.toNat)++(s_.drop j_.toNat)++s_.drop (i_.toNat+(s_.drop j_.toNat).length)).take (i_+((s_.drop j_.toNat).length:Int)).toNat++replicate zs.length zz0) v_)] H (λ_=>.q 0 rfl<|.q 1 rfl<|.u [0] rfl rfl (QpN ud52 z0 hn0)<|.q 4 rfl<|.u [0] rfl rfl (QpO (R:=Qe) ud52 Q4 z3 z1 z0 hn0 h0)<|.e [] [0] [1] rfl rfl rfl rfl (QnE (R:=Qe) ud52 Q4 QgM z0 hzs)<|.n) λ_ a w H=>?_;have H:=H.t1_1 [5];refine k0 _ _ ?_;clear k0 K0;have h1:sub (((s_.take i_.toNat)++(s_.drop j_.toNat)++s_.drop (i_.toNat+(s_.drop j_.toNat).length)).take (i_+((s_.drop j_.toNat).length:Int)).toNat++replicate zs.length zz0) 0 (i_+((s_.drop j_.toNat).length:Int))=some ((s_.take i_.toNat)++(s_.drop j_.toNat)):=by
  obtain⟨_,_,q2,q3,_⟩:=QgX hn0;unfold sub;rw[Ze ⟨ZF _,by omega,by rw[Zd,ZE,Nat.min_eq_left q2];omega⟩];simp only[Int.toNat_zero,drop_zero,Nat.sub_zero] at q3 ⊢;rw[take_left' (by rw[ZE,Nat.min_eq_left q2])];exact Zu some q3.symm
 replace H:St _ _ _ [_] [_] _ _:=H.cut0 h1;refine wp_seq_k (λK0 k0=>?_);refine wr mx [] H (λ_=>.q 0 rfl<|.o (Qc z0)<|.n) λ_ a w H=>?_;have H:=H.t1_1 [1];refine k0 _ _ ?_;clear k0 K0;refine wp_ret ?_;exact rt (cutV Qe.n v_ 0 (i_+((s_.drop j_.toNat).length:Int))) [0] hpl H (.tmp z0 .nil)
def Qcj (x_:Qa) (o_:Qn) (p_:Qj):Option (Qa):=(idx x_.Xa p_.kind).bind λr2=>(Qdi r2.Xb p_.field (i64.wrap (p_.field+1))).bind λt0=>(setAt x_.Xa p_.kind { r2 with Xb:=t0 }).bind λm9=>(some (Qa.mk x_.Version m9 x_.Xd x_.Xc))
instance QmU:SpcS prog 225 (∀{q0:Value} {vh0_1:Value} {vh0_3:Value} {x_:Qa} {o_:Qn} {p_:Qj} {r:Qa},Qcj x_ o_ p_=some r->FnOk prog 225 [tv q0,Qv.ty o_,Qi.ty p_] [box ([ti x_.Version,tvs (dh vh0_1),tsl Qo x_.Xd,tvs vh0_3]) q0,deep dF54 54 x_.Xa vh0_1,own Ql 62 x_.Xc vh0_3] (λ_=>[box (Qb.cs r) q0]) (λ_=>ttup [])):=.mk λ{q0 vh0_1 vh0_3 x_ o_ p_ r} h=>by
 unfold Qcj at h
 refine Fe func225 ntmps225 λM0 M w0 hpl=>?_
 refine QyV [1,2] ?_
 have⟨r2,h0,h⟩:=bs h
 refine Qy9 (As'':=[own Qe 70 r2.Xb (dh (ds vh0_1 (p_.kind).toNat)),Qaq dF54 54 x_.Xa vh0_1 (some (p_.kind).toNat),box ([ti x_.Version,tvs (dh vh0_1),tsl Qo x_.Xd,tvs vh0_3]) q0,own Ql 62 x_.Xc vh0_3]) (λ_ _ H=>(H.Xj [1,0,2] rfl).openD h0) ?_
 have⟨t0,h1,m9,hm9,h⟩:=bs2 h
 intro a w H
 refine wr mx [v1 20 (λv0=>own Qe 70 t0 v0),v1 20 (λv0=>Qaq dF54 54 x_.Xa (dset (x_.Xa).length vh0_1 (p_.kind).toNat (dmk v0 [])) (some (p_.kind).toNat))] H (λm0=>.q 1 rfl<|.u [2] rfl rfl (Qa5 z0)<|.u [2] rfl rfl (QC QZ z0)<|.u [2] rfl rfl (QX (u:=(dh vh0_1)) Qa7 z0 rfl)<|.o (Qg Qa1 z4)<|.o (Qf (u:=p_.kind) tok3 z0 rfl)<|.q 7 rfl<|.u [2] rfl rfl (Qa5 z0)<|.u [2] rfl rfl (QC QZ z0)<|.u [2] rfl rfl (QX (u:=(dh vh0_1)) Qa7 z0 rfl)<|.o (Qg Qa1 z10)<|.o (Qf (u:=p_.kind) tok3 z0 rfl)<|.u [1] rfl rfl (Qal ud23 Q6 z2 z0 h0)<|.u [1] rfl rfl (Qah Qaf z0 rfl h0)<|.u [1] rfl rfl (Qbt (QaA (R2:=rVal) (f:=dh (ds vh0_1 (p_.kind).toNat)) Qbe z0 h0 rfl) (λ_ _ _ _ h=>h.1))<|.o (Qg QdD z15)<|.o (Qf (u:=p_.field) tok3 z0 rfl)<|.o (Qg QdD z17)<|.o (Qf (u:=p_.field) tok3 z0 rfl)<|.o (Qab z0 .k)<|.e [] [0] [4] rfl rfl rfl rfl (Qq QxF (Qk3.ok h1) (.cons (.of z5)<|.cons (.of z3)<|.cons (.of z0)<|.nil))<|.u [1] rfl rfl (Qal ud23 Q6 z17 z15 h0)<|.u [1] rfl rfl (Qah Qaf z0 rfl h0)<|.e [4] [1] [5] rfl rfl rfl rfl (QcQ (B:=own Qe 70 t0 (m0 20)) (g2:=(dmk (m0 20) [])) (λ_ _ h=>Qdo h) Qbe z0 z2 h0 (leb rfl) rfl)<|.n) λm0 a w H=>?_
 replace H:St _ _ _ [_,_,_] [_,_,_] _ _:=((H.pick [3,9,24]).Xj [2,3,0,1] rfl).shutN (D:=dF54) (y:={ r2 with Xb:=t0 }) (g2:=(dmk (m0 20) [])) h0 hm9
 replace H:St _ _ _ [_] [_,_] _ _:=((H.pick [2]).Xj [0,1,2] rfl).shareCD 1 rfl
 replace H:St _ _ _ [_] [_] _ _:=((H.pick [0]).Xj [1,0] rfl).Xl 3 rfl
 refine Qzh H ?_
 obtain rfl:=sj h
 exact QBP undef [0] hpl
def Qfy (s:Str) (o:Qn):Str:=if (s==o.Field)=true then o.Xi else s
theorem Qr5 {α:Type} {R:Rep α} {x:α} {off:Nat} {T:Ty} (ho:off+1<=R.n) (h:[T]=((R.cs x).drop off).take 1):splice (R.cs x) off [T]=R.cs x:=by
 have hl:=R.len x;have hg:(R.cs x)[off]?=some T:=by
  have:=Zu (λl=>l[0]?) h;simpa using this.symm
 unfold splice;have h2:=(Zc.1 hg);obtain⟨h3,h4⟩:=h2;rw[ZC,<-h4];simp
theorem Qdw {α:Type} {R:Rep α} {e:TypeId} {xs ys:List α} {v:Value} {i:Int} {u u0:α} {off:Nat} {o_:Qn} {s:Str} (h0:idx xs i=some u0) (h:setAt xs i u=some ys) (hoff:off+1<=R.n) (hg:rS.cs s=((R.cs u0).drop off).take (rS.cs s).length) (hu:R.cs u=splice (R.cs u0) off (rS.cs (Qfy s o_))):
  FnOk prog 244 [tv (padd (QaX v (i.toNat * R.n)) off),tptr (Qv.cs o_)] [own R e xs v] (λ_=>[own R e ys v]) (λ_=>ttup []):=by
 obtain⟨_,hlt,rfl⟩:=Qii h;refine fe func244 ntmps244 λM0 M w0 a hpl H=>?_;refine wp_seq_k (λK0 k0=>?_);refine wr mx [] H (λ_=>.q 0 rfl<|.u [0] rfl rfl (QqW z0 (Qav h0))<|.u [0] rfl rfl (Qb0 (R2:=rS) (f:=s) tok9 z0 h0 hg)<|.o (Qg Qsv z4)<|.o (Qf (u:=o_.Field) tok9 z0 rfl)<|.o (QdB z2 z0)<|.n) λ_ a w H=>?_;have H:=H.t3_1 [5,6,7];refine k0 _ _ ?_;clear k0 K0;refine wt H (λb=>?_) (λb=>?_)
 ·have et:Qfy s o_=o_.Xi:=by unfold Qfy;rw[Ze b]
  rw[et] at hu;refine wr mx [v0 (own R e (xs.set i.toNat u) v)] H (λ_=>.q 1 rfl<|.o (Qg Qlp z3)<|.o (Qf (u:=o_.Xi) tok9 z0 rfl)<|.u [0] rfl rfl (QqW z2 (Qav h0))<|.e [] [0] [1] rfl rfl rfl rfl (QaT (R2:=rS) (u2:=o_.Xi) tok9 z0 z1 h0 h hoff hu)<|.n) λ_ a w H=>?_;have H:=H.to [] [] [_] rfl rfl;exact QeU undef [0] hpl H rfl .nil rfl rfl rfl
 refine wp_skip ?_;have et:Qfy s o_=s:=by unfold Qfy;rw[Zb (by simpa using b)]
 have eo:own R e (xs.set i.toNat u) v=own R e xs v:=by
  obtain⟨_,_,hx⟩:=QcG h0;refine Qug rfl (ZS ..) (Qhr (ZS ..) (λj b c hb hc=>?_));by_cases hj:j=i.toNat
  ·subst hj;rw[getElem?_set_self hlt] at hb;cases hb;rw[hx] at hc;cases hc;rw[hu,et];exact Qr5 hoff hg
  rw[getElem?_set_ne (λe=>hj e.symm),hc] at hb;cases hb;rfl
 rw[eo];exact QeU undef [0] hpl (H.pick []) rfl .nil rfl rfl rfl
