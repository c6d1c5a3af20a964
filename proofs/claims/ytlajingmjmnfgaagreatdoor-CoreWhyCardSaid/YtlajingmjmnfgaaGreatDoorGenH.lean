/- The walk. No condition. -/
import Derived.Test.YtlajingmjmnfgaaGreatDoorGenG
set_option linter.all false
open Go.Proofs.Tryz Go.IntKind
namespace Go.Proofs.YtlajingmjmnfgaaGreatDoor
noncomputable section
open Go.Sim
set_option maxRecDepth 100000
set_option maxHeartbeats 4000000
def QeG (x_:Int):Option (Int):=(some (iand .i64 (i64.wrap (u64.wrap ((u64.wrap ((u64.wrap ((iand .u64 (u64.wrap ((ishr .u64 (u64.wrap ((iand .u64 (ishr .u64 (u64.wrap ((iand .u64 (ishr .u64 x_ (1:Int)) (6148914691236517205:Int))+(iand .u64 x_ (6148914691236517205:Int)))) (2:Int)) (3689348814741910323:Int))+(iand .u64 (u64.wrap ((iand .u64 (ishr .u64 x_ (1:Int)) (6148914691236517205:Int))+(iand .u64 x_ (6148914691236517205:Int)))) (3689348814741910323:Int)))) (4:Int))+(u64.wrap ((iand .u64 (ishr .u64 (u64.wrap ((iand .u64 (ishr .u64 x_ (1:Int)) (6148914691236517205:Int))+(iand .u64 x_ (6148914691236517205:Int)))) (2:Int)) (3689348814741910323:Int))+(iand .u64 (u64.wrap ((iand .u64 (ishr .u64 x_ (1:Int)) (6148914691236517205:Int))+(iand .u64 x_ (6148914691236517205:Int)))) (3689348814741910323:Int)))))) (1085102592571150095:Int))+(ishr .u64 (iand .u64 (u64.wrap ((ishr .u64 (u64.wrap ((iand .u64 (ishr .u64 (u64.wrap ((iand .u64 (ishr .u64 x_ (1:Int)) (6148914691236517205:Int))+(iand .u64 x_ (6148914691236517205:Int)))) (2:Int)) (3689348814741910323:Int))+(iand .u64 (u64.wrap ((iand .u64 (ishr .u64 x_ (1:Int)) (6148914691236517205:Int))+(iand .u64 x_ (6148914691236517205:Int)))) (3689348814741910323:Int)))) (4:Int))+(u64.wrap ((iand .u64 (ishr .u64 (u64.wrap ((iand .u64 (ishr .u64 x_ (1:Int)) (6148914691236517205:Int))+(iand .u64 x_ (6148914691236517205:Int)))) (2:Int)) (3689348814741910323:Int))+(iand .u64 (u64.wrap ((iand .u64 (ishr .u64 x_ (1:Int)) (6148914691236517205:Int))+(iand .u64 x_ (6148914691236517205:Int)))) (3689348814741910323:Int)))))) (1085102592571150095:Int)) (8:Int))))+(ishr .u64 (u64.wrap ((iand .u64 (u64.wrap ((ishr .u64 (u64.wrap ((iand .u64 (ishr .u64 (u64.wrap ((iand .u64 (ishr .u64 x_ (1:Int)) (6148914691236517205:Int))+(iand .u64 x_ (6148914691236517205:Int)))) (2:Int)) (3689348814741910323:Int))+(iand .u64 (u64.wrap ((iand .u64 (ishr .u64 x_ (1:Int)) (6148914691236517205:Int))+(iand .u64 x_ (6148914691236517205:Int)))) (3689348814741910323:Int)))) (4:Int))+(u64.wrap ((iand .u64 (ishr .u64 (u64.wrap ((iand .u64 (ishr .u64 x_ (1:Int)) (6148914691236517205:Int))+(iand .u64 x_ (6148914691236517205:Int)))) (2:Int)) (3689348814741910323:Int))+(iand .u64 (u64.wrap ((iand .u64 (ishr .u64 x_ (1:Int)) (6148914691236517205:Int))+(iand .u64 x_ (6148914691236517205:Int)))) (3689348814741910323:Int)))))) (1085102592571150095:Int))+(ishr .u64 (iand .u64 (u64.wrap ((ishr .u64 (u64.wrap ((iand .u64 (ishr .u64 (u64.wrap ((iand .u64 (ishr .u64 x_ (1:Int)) (6148914691236517205:Int))+(iand .u64 x_ (6148914691236517205:Int)))) (2:Int)) (3689348814741910323:Int))+(iand .u64 (u64.wrap ((iand .u64 (ishr .u64 x_ (1:Int)) (6148914691236517205:Int))+(iand .u64 x_ (6148914691236517205:Int)))) (3689348814741910323:Int)))) (4:Int))+(u64.wrap ((iand .u64 (ishr .u64 (u64.wrap ((iand .u64 (ishr .u64 x_ (1:Int)) (6148914691236517205:Int))+(iand .u64 x_ (6148914691236517205:Int)))) (2:Int)) (3689348814741910323:Int))+(iand .u64 (u64.wrap ((iand .u64 (ishr .u64 x_ (1:Int)) (6148914691236517205:Int))+(iand .u64 x_ (6148914691236517205:Int)))) (3689348814741910323:Int)))))) (1085102592571150095:Int)) (8:Int)))) (16:Int))))+(ishr .u64 (u64.wrap ((u64.wrap ((iand .u64 (u64.wrap ((ishr .u64 (u64.wrap ((iand .u64 (ishr .u64 (u64.wrap ((iand .u64 (ishr .u64 x_ (1:Int)) (6148914691236517205:Int))+(iand .u64 x_ (6148914691236517205:Int)))) (2:Int)) (3689348814741910323:Int))+(iand .u64 (u64.wrap ((iand .u64 (ishr .u64 x_ (1:Int)) (6148914691236517205:Int))+(iand .u64 x_ (6148914691236517205:Int)))) (3689348814741910323:Int)))) (4:Int))+(u64.wrap ((iand .u64 (ishr .u64 (u64.wrap ((iand .u64 (ishr .u64 x_ (1:Int)) (6148914691236517205:Int))+(iand .u64 x_ (6148914691236517205:Int)))) (2:Int)) (3689348814741910323:Int))+(iand .u64 (u64.wrap ((iand .u64 (ishr .u64 x_ (1:Int)) (6148914691236517205:Int))+(iand .u64 x_ (6148914691236517205:Int)))) (3689348814741910323:Int)))))) (1085102592571150095:Int))+(ishr .u64 (iand .u64 (u64.wrap ((ishr .u64 (u64.wrap ((iand .u64 (ishr .u64 (u64.wrap ((iand .u64 (ishr .u64 x_ (1:Int)) (6148914691236517205:Int))+(iand .u64 x_ (6148914691236517205:Int)))) (2:Int)) (3689348814741910323:Int))+(iand .u64 (u64.wrap ((iand .u64 (ishr .u64 x_ (1:Int)) (6148914691236517205:Int))+(iand .u64 x_ (6148914691236517205:Int)))) (3689348814741910323:Int)))) (4:Int))+(u64.wrap ((iand .u64 (ishr .u64 (u64.wrap ((iand .u64 (ishr .u64 x_ (1:Int)) (6148914691236517205:Int))+(iand .u64 x_ (6148914691236517205:Int)))) (2:Int)) (3689348814741910323:Int))+(iand .u64 (u64.wrap ((iand .u64 (ishr .u64 x_ (1:Int)) (6148914691236517205:Int))+(iand .u64 x_ (6148914691236517205:Int)))) (3689348814741910323:Int)))))) (1085102592571150095:Int)) (8:Int))))+(ishr .u64 (u64.wrap ((iand .u64 (u64.wrap ((ishr .u64 (u64.wrap ((iand .u64 (ishr .u64 (u64.wrap ((iand .u64 (ishr .u64 x_ (1:Int)) (6148914691236517205:Int))+(iand .u64 x_ (6148914691236517205:Int)))) (2:Int)) (3689348814741910323:Int))+(iand .u64 (u64.wrap ((iand .u64 (ishr .u64 x_ (1:Int)) (6148914691236517205:Int))+(iand .u64 x_ (6148914691236517205:Int)))) (3689348814741910323:Int)))) (4:Int))+(u64.wrap ((iand .u64 (ishr .u64 (u64.wrap ((iand .u64 (ishr .u64 x_ (1:Int)) (6148914691236517205:Int))+(iand .u64 x_ (6148914691236517205:Int)))) (2:Int)) (3689348814741910323:Int))+(iand .u64 (u64.wrap ((iand .u64 (ishr .u64 x_ (1:Int)) (6148914691236517205:Int))+(iand .u64 x_ (6148914691236517205:Int)))) (3689348814741910323:Int)))))) (1085102592571150095:Int))+(ishr .u64 (iand .u64 (u64.wrap ((ishr .u64 (u64.wrap ((iand .u64 (ishr .u64 (u64.wrap ((iand .u64 (ishr .u64 x_ (1:Int)) (6148914691236517205:Int))+(iand .u64 x_ (6148914691236517205:Int)))) (2:Int)) (3689348814741910323:Int))+(iand .u64 (u64.wrap ((iand .u64 (ishr .u64 x_ (1:Int)) (6148914691236517205:Int))+(iand .u64 x_ (6148914691236517205:Int)))) (3689348814741910323:Int)))) (4:Int))+(u64.wrap ((iand .u64 (ishr .u64 (u64.wrap ((iand .u64 (ishr .u64 x_ (1:Int)) (6148914691236517205:Int))+(iand .u64 x_ (6148914691236517205:Int)))) (2:Int)) (3689348814741910323:Int))+(iand .u64 (u64.wrap ((iand .u64 (ishr .u64 x_ (1:Int)) (6148914691236517205:Int))+(iand .u64 x_ (6148914691236517205:Int)))) (3689348814741910323:Int)))))) (1085102592571150095:Int)) (8:Int)))) (16:Int)))) (32:Int))))) (127:Int)))
instance QuB:Spc1 prog 95 QeG (λx_=>[tv (.int .u64 x_)]) ti:=.mk λ{x_ r} h=>by
 unfold QeG at h
 refine Fe func95 ntmps95 λM0 M w0 hpl=>?_
 refine Qa [1] ?_
 intro a w H
 refine sr mx [] H (λ_=>.q 0 rfl<|.o (QbC z0 .k (by decide))<|.o (QcO z0 .k)<|.q 3 rfl<|.o (QcO z0 .k)<|.o (QaH z2 z0)<|.o (Qr z0)<|.n) λ_ a w H=>?_
 have H:=H.t1_0 [6]
 refine Q2 H ?_
 intro a w H
 refine sr mx [] H (λ_=>.q 0 rfl<|.o (QbC z0 .k (by decide))<|.o (QcO z0 .k)<|.q 3 rfl<|.o (QcO z0 .k)<|.o (QaH z2 z0)<|.o (Qr z0)<|.n) λ_ a w H=>?_
 have H:=H.t1_0 [6]
 refine Q2 H ?_
 intro a w H
 refine sr mx [] H (λ_=>.q 0 rfl<|.o (QbC z0 .k (by decide))<|.q 2 rfl<|.o (QaH z1 z0)<|.o (QcO z0 .k)<|.o (Qr z0)<|.n) λ_ a w H=>?_
 have H:=H.t1_0 [5]
 refine Q2 H ?_
 intro a w H
 refine sr mx [] H (λ_=>.q 0 rfl<|.q 1 rfl<|.o (QbC z0 .k (by decide))<|.o (QaH z2 z0)<|.o (Qr z0)<|.n) λ_ a w H=>?_
 have H:=H.t1_0 [4]
 refine Q2 H ?_
 intro a w H
 refine sr mx [] H (λ_=>.q 0 rfl<|.q 1 rfl<|.o (QbC z0 .k (by decide))<|.o (QaH z2 z0)<|.o (Qr z0)<|.n) λ_ a w H=>?_
 have H:=H.t1_0 [4]
 refine Q2 H ?_
 intro a w H
 refine sr mx [] H (λ_=>.q 0 rfl<|.q 1 rfl<|.o (QbC z0 .k (by decide))<|.o (QaH z2 z0)<|.o (Qr z0)<|.n) λ_ a w H=>?_
 have H:=H.t1_0 [4]
 refine Q2 H ?_
 intro a w H
 refine sr mx [] H (λ_=>.q 0 rfl<|.o (QcZ QnO ud3 z0)<|.o (QcO z0 .k)<|.o (Qr z0)<|.n) λ_ a w H=>?_
 have H:=H.t1_0 [3]
 refine Q2 H ?_
 exact Qo h (·▸Ql hpl)
def Qcg (x_:Int):Option (Int):=(QeG x_).bind λt0=>(some t0)
instance Qir:Spc1 prog 35 Qcg (λx_=>[tv (.int .u64 x_)]) ti:=.mk λ{x_ r} h=>by
 unfold Qcg at h
 refine Fe func35 ntmps35 λM0 M w0 hpl=>?_
 refine Qa [1] ?_
 refine Qf λ_ k0=>?_
 refine QsV ?_
 refine Qq ?_
 refine k0 ?_
 have⟨_,_,h⟩:=bs h
 refine Qa [2] ?_
 exact Qo h (·▸Ql hpl)
def QeX {S:Type} (Y:S->Int->Option (S⊕S)) (s_:S) (n_:Int):Option (S⊕S):=(Qm (λ(s0:Int×S)=>((if (decide (s0.1<(i64.wrap (n_+1))))=true then (nn n_).bind λ_=>(Qm (λ(s1:Int×S)=>((if (decide (s1.1<(ishl .u64 (1:Int) n_)))=true then (Qcg s1.1).bind λt0=>((if (t0==s0.1)=true then Y s1.2 s1.1 else some (.inl s1.2))).bind λt1=>(match t1 with | .inl s2=>(some (.inl (u64.wrap (s1.1+1),s2))) | .inr s2=>(some (.inr (.inr s2)))) else (some (.inr (.inl s1.2)))):Option ((Int×S)⊕(S⊕S)))) ((0:Int),s0.2)).bind λe0=>(match e0 with | .inl s2=>(some (.inl (i64.wrap (s0.1+1),s2))) | .inr s2=>(some (.inr (.inr s2)))) else (some (.inr (.inl s0.2)))):Option ((Int×S)⊕(S⊕S)))) ((0:Int),s_))
theorem Qjv {S:Type} {Y:S->Int->Option (S⊕S)} {s_:S} {n_:Int} {r:S⊕S} (h:QeX Y s_ n_=some r):Qp7 prog 93 [tptr (rI.cs n_)] .u64 Y s_ r:=by
 intro l W g0 hY;refine⟨λ_=>ttup [],?_⟩;unfold QeX at h;refine fe func93 ntmps93 λM0 M w0 a hpl H=>?_;refine wp_seq_k (λK0 k0=>?_);refine wr mx [] H (λ_=>.o (Qaa (R:=rI) (u:=n_) tok3 z1)<|.o (QaH z0 .k)<|.o (Qaj .k)<|.n) λ_ a w H=>?_;have H:=H.t4_1 [2,1,3,4];refine k0 _ _ ?_;clear k0 K0;refine wp_block ?_;refine Qg5 _ (λ(s0:Int×S) a w=>∃g:Value,St M w0 27 [(7,ti s0.1),(6,ti (i64.wrap (n_+1))),(0,tv (.func (.yield l) #[] #[])),(1,tptr (rI.cs n_))] [W (.inl s0.2) g] a w) _ _ h ⟨g0,H⟩ ?_;clear h;intro s0 o a w K1 hI h ho k1;obtain⟨g1,H⟩:=hI;refine wp_seq_k (λK2 k2=>?_);refine wr mx [] H (λ_=>.o (Qck z0 z1)<|.n) λ_ a w H=>?_;replace H:St _ _ _ [_,_,_,_,_] [_] _ _:=H;refine k2 _ _ ?_;clear k2 K2;refine wp_seq_k (λK3 k3=>?_);refine wi H h (λb0 h=>?_) (λb0 h=>?_)
 ·have⟨u0,h0,e0,h1,h⟩:=bs2 h;refine wp_skip (k3 _ _ ?_);clear k3 K3;refine wp_seq_k (λK4 k4=>?_);refine wp_block ?_;refine wp_seq_k (λK5 k5=>?_);refine wr mx [] H (λ_=>.q 1 rfl<|.o (Qr z0)<|.n) λ_ a w H=>?_;have H:=H.to [1,3,4,5,6] [_,_,_,_,_] [_] rfl rfl;refine k5 _ _ ?_;clear k5 K5;refine wp_seq_k (λK6 k6=>?_);refine wr mx [] H (λ_=>.o (Qaa (R:=rI) (u:=n_) tok3 z4)<|.o (Qot .k z0 (Qix h0))<|.o (Qaj .k)<|.n) λ_ a w H=>?_;have H:=H.to [2,1,3,4,5,6,7] [_,_,_,_,_,_,_] [_] rfl rfl;refine k6 _ _ ?_;clear k6 K6;refine wp_block ?_;have hJ:∀(g:Value) (s1:S) a w,e0=.inl s1->St M w0 27 [(7,ti s0.1),(6,ti (i64.wrap (n_+1))),(0,tv (.func (.yield l) #[] #[])),(1,tptr (rI.cs n_))] [W (.inl s1) g] a w->K4 a w:=by
   intro g s1 a w he H;subst he;simp only at h;refine k4 _ _ ?_;refine wr mx [] H (λ_=>.o (QaH z0 .k)<|.q 0 rfl<|.n) λ_ a w H=>?_;have H:=H.t4_1 [1,2,3,4];exact k1 _ _ _ (sj h).symm ⟨g,H⟩
  have hX:∀(g:Value) (s1:S) a w,e0=.inr s1->St M w0 27 [] [W (.inr s1) g] a w->Ret prog f93 M0 [W (.inl s_) g0] w0 (λx=>[W r x]) (λ_=>ttup []) .ret a w:=by
   intro g s1 a w he H;subst he;simp only at h;obtain rfl:=ho _ (sj h).symm;exact rt g [0] hpl H .nil
  clear h ho k1 k4;refine Qg5 _ (λ(s2:Int×S) a w=>∃g:Value,St M w0 27 [(12,tv (.int .u64 s2.1)),(11,tv (.int .u64 (ishl .u64 (1:Int) n_))),(3,ti s0.1),(7,ti s0.1),(6,ti (i64.wrap (n_+1))),(0,tv (.func (.yield l) #[] #[])),(1,tptr (rI.cs n_))] [W (.inl s2.2) g] a w) _ _ h1 ⟨g1,H⟩ ?_;clear h1;intro s2 o2 a w K7 hI h ho k7;obtain⟨g2,H⟩:=hI;refine wp_seq_k (λK8 k8=>?_);refine wr mx [] H (λ_=>.o (Qck z0 z1)<|.n) λ_ a w H=>?_;replace H:St _ _ _ [_,_,_,_,_,_,_,_] [_] _ _:=H;refine k8 _ _ ?_;clear k8 K8;refine wp_seq_k (λK9 k9=>?_);refine wi H h (λb1 h=>?_) (λb1 h=>?_)
  ·have⟨t0,h2,t1,h3,h⟩:=bs2 h;refine wp_skip (k9 _ _ ?_);clear k9 K9;refine wp_seq_k (λ_ k10=>?_);refine wp_block ?_;refine wp_seq_k (λK10 k11=>?_);refine wr mx [] H (λ_=>.q 1 rfl<|.o (Qr z0)<|.n) λ_ a w H=>?_;have H:=H.to [1,3,4,5,6,7,8,9] [_,_,_,_,_,_,_,_] [_] rfl rfl;refine k11 _ _ ?_;clear k11 K10;refine wp_seq_k (λK11 k12=>?_);refine Qdh mixed [v1 7 (λv0=>bif (t0==s0.1)==true then W t1 v0 else W (.inl s2.2) g2)] H (λm0=>.q 0 rfl<|.o (QN QqP (Qir.ok h2) (.cons (.of z0)<|.nil))<|.q 5 rfl<|.o (QcG z1 z0)<|.q 0 rfl<|.g rfl rfl bq0 (λ_=>Qaj z11)<|.g rfl rfl bq1 (λ_=>Qaj z6)<|.ge (N:=λc v0=>[bif c then W t1 v0 else W (.inl s2.2) g2]) [] [0] [1] rfl rfl rfl rfl rfl bq2 (λhc=>QuT (.cond z1 hc) (.cond z0 hc) (hY _ _ _ _ ((Zc (by simpa using hc)).symm.trans h3))) rfl<|.g rfl rfl bq3 (λhc=>Qi3 (.cond z0 hc))<|.o (QcY z4 (λhp=>(.cond z0 (beqT hp))))<|.nil _ _) (by kernel_rfl) (λm0 a w H=>?_);refine k12 _ _ ?_;clear k12 K11;have hW:∃g,(bif (t0==s0.1)==true then W t1 (m0 7) else W (.inl s2.2) g2)=W t1 g:=by
    cases hc:(t0==s0.1) with
    | true=>exact⟨m0 7,rfl⟩
    | false=>rw[hc,Zd (by simp)] at h3;obtain rfl:=sj h3;exact⟨g2,rfl⟩
   obtain⟨g3,hW⟩:=hW;have H3:St M w0 27 [(24,tb ((t0==s0.1)&&!t1.isLeft)),(12,tv (.int .u64 s2.1)),(11,tv (.int .u64 (ishl .u64 (1:Int) n_))),(3,ti s0.1),(7,ti s0.1),(6,ti (i64.wrap (n_+1))),(0,tv (.func (.yield l) #[] #[])),(1,tptr (rI.cs n_))] [W t1 g3] a w:=by
    have H2:St M w0 27 [(24,tb ((t0==s0.1)&&!t1.isLeft)),(12,tv (.int .u64 s2.1)),(11,tv (.int .u64 (ishl .u64 (1:Int) n_))),(3,ti s0.1),(7,ti s0.1),(6,ti (i64.wrap (n_+1))),(0,tv (.func (.yield l) #[] #[])),(1,tptr (rI.cs n_))] [bif (t0==s0.1)==true then W t1 (m0 7) else W (.inl s2.2) g2] a w:=H.pick [9,11,12,13,14,15,16,17];rw[hW] at H2;exact H2
   replace H:=H3;refine wt H (λb2=>?_) (λb2=>?_)
   ·cases t1 with
    | inl s1=>simp at b2
    | inr s1=>
     simp only at h;refine wp_ret ?_;exact hX g3 s1 _ _ (ho _ (sj h).symm).symm (H.pick [])
   cases t1 with
   | inl s1=>
    simp only at h;refine wp_skip (k10 _ _ ?_);refine wr mx [] H (λ_=>.o (QaH z1 .k)<|.q 0 rfl<|.n) λ_ a w H=>?_;have H:=H.to [1,3,4,5,6,7,8] [_,_,_,_,_,_,_] [_] rfl rfl;exact k7 _ _ _ (sj h).symm ⟨g3,H⟩
   | inr s1=>
    exfalso;cases hc:(t0==s0.1) with
    | true=>rw[hc] at b2;simp at b2
    | false=>rw[hc,Zd (by simp)] at h3;cases sj h3
  refine wp_exit ?_;exact hJ g2 _ _ _ (ho _ (sj h).symm).symm (H.pick [4,5,6,7])
 refine wp_exit ?_;obtain rfl:=ho _ (sj h).symm;exact Qsy g1 [0] hpl H rfl .nil rfl rfl rfl
theorem QlG {n_:Int}:FnOk prog 34 [ti n_] [] (λ_=>[]) (λ_=>QaZ 93 [tptr (rI.cs n_)]):=by
 refine fe func34 ntmps34 λM0 M w0 a hpl H=>?_;refine wp_seq_k (λK0 k0=>?_);refine wr mx [] H (λ_=>.o (Ql5 (R:=rI) (u:=n_) z0)<|.o (Qr .k)<|.n) λ_ a w H=>?_;have H:=H.t1_0 [0];refine k0 _ _ ?_;clear k0 K0;refine wp_seq_k (λ_ k1=>?_);refine wr mx [] H (λ_=>.o (Qi4 (.cons z0<|.nil))<|.o (Qr z0)<|.n) λ_ a w H=>?_;have H:=H.t1_0 [1];refine k1 _ _ ?_;refine wp_ret ?_;exact rt undef [] hpl H (.tmp z0 .nil)
def Qez (i_:Int) (c0_:Int):Option (Bool):=(nn i_).bind λ_=>(some ((iand .u64 (ishr .u64 c0_ i_) (1:Int))==1))
instance Qp1:Spc2 prog 36 Qez (λi_ c0_=>[ti i_,tptr ((rInt .u64).cs c0_)]) tb:=.mk λ{i_ c0_ r} h=>by
 unfold Qez at h
 refine Fe func36 ntmps36 λM0 M w0 hpl=>?_
 refine Qa [1,2] ?_
 have⟨_,h0,h⟩:=bs h
 intro a w H
 refine sr mx [] H (λ_=>.o (Qaa QhU z1)<|.q 1 rfl<|.o (QbC z1 z0 (Qix h0))<|.o (QcO z0 .k)<|.o (QcG z0 .k)<|.o (Qr z0)<|.n) λ_ a w H=>?_
 have H:=H.t1_0 [5]
 refine Q2 H ?_
 exact Qo h (·▸Ql hpl)
def QeA (k_:Int) (c0_:Int):Option (Bool):=(nn k_).bind λ_=>(some ((iand .u64 (ishr .u64 c0_ k_) (1:Int))==1))
instance Qp2:Spc2 prog 37 QeA (λk_ c0_=>[ti k_,tptr ((rInt .u64).cs c0_)]) tb:=.mk λ{k_ c0_ r} h=>by
 unfold QeA at h
 refine Fe func37 ntmps37 λM0 M w0 hpl=>?_
 refine Qa [1,2] ?_
 have⟨_,h0,h⟩:=bs h
 intro a w H
 refine sr mx [] H (λ_=>.o (Qaa QhU z1)<|.q 1 rfl<|.o (QbC z1 z0 (Qix h0))<|.o (QcO z0 .k)<|.o (QcG z0 .k)<|.o (Qr z0)<|.n) λ_ a w H=>?_
 have H:=H.t1_0 [5]
 refine Q2 H ?_
 exact Qo h (·▸Ql hpl)
def Qgc (x_:Qb):Option ((List Str)×Int):=(QfN x_).bind λt0=>(if (t0.2 !=0)=true then (some (([]:List Str),t0.2)) else (QfO x_).bind λt1=>(if (decide ((t1.Xo.length:Int)>16))=true then (some (([]:List Str),(4:Int))) else (mk (x_.Xa.length:Int) ([]:(List Int))).bind λt2=>(Qm (λ(s0:Int×List (List Int))=>((if (decide (s0.1<(t2.length:Int)))=true then (QcP t1 s0.1 (λx0=>Qh9 x0)).bind λt3=>(setAt s0.2 s0.1 t3).bind λt4=>(some (.inl ((i64.wrap (s0.1+1)),t4))) else (some (.inr s0.2))):Option ((Int×List (List Int))⊕((List (List Int)))))) ((0:Int),t2)).bind λp0=>(QaJ t1 (λx0=>Qh9 x0) (λx0=>QgQ x0 p0)).bind λt5=>(if t5=true then (some (([]:List Str),(6:Int))) else (QeX (λ(s1:List Int) (m41:Int)=>((Qm (λ(s2:Int×List Int)=>((if (decide (s2.1<(x_.Xa.length:Int)))=true then (nn s2.1).bind λ_=>((if ((iand .u64 (ishr .u64 m41 s2.1) (1:Int))==1)=true then (idx p0 s2.1).bind λt6=>(rm (s2.2.length+t6.length)).bind λ_=>(idx p0 s2.1).bind λt7=>((if (t7.isEmpty)=true then (mk (i64.wrap ((t0.1.length:Int)+1)) (0:Int)).bind λt8=>(some t8) else (some (s2.2++t6)))).bind λp1=>(some p1) else (some s2.2))).bind λp2=>(some (.inl ((i64.wrap (s2.1+1)),p2))) else (some (.inr s2.2))):Option ((Int×List Int)⊕((List Int))))) ((0:Int),([]:List Int))).bind λp3=>((QeX (λ(s3:List Int) (m1394:Int)=>((Qcg m1394).bind λt9=>(if (((!s3.isEmpty)&&(decide ((i64.wrap ((p3.length:Int)+t9))>=(s3.length:Int))))||(decide ((i64.wrap ((p3.length:Int)+t9))>(t0.1.length:Int))))=true then (some (.inr s3)) else (QaJ t1 (λx0=>Qez x0 m1394) (λx0=>QeA x0 m41)).bind λt10=>(if t10=true then (some (.inl s3)) else (Qm (λ(s4:Int×List Int)=>((if (decide (s4.1<(t1.Xo.length:Int)))=true then (nn s4.1).bind λ_=>((if ((iand .u64 (ishr .u64 m1394 s4.1) (1:Int))==1)=true then (rm (s4.2.length+[s4.1].length)).bind λ_=>(some (s4.2++[s4.1])) else (some s4.2))).bind λp4=>(some (.inl ((i64.wrap (s4.1+1)),p4))) else (some (.inr s4.2))):Option ((Int×List Int)⊕((List Int))))) ((0:Int),([]:List Int))).bind λp5=>(Qm (λ(s5:Int×List Int)=>((if (decide (s5.1<(p3.length:Int)))=true then (idx p3 s5.1).bind λt11=>(rm (s5.2.length+[(i64.wrap ((t1.Xo.length:Int)+t11))].length)).bind λ_=>(some (.inl ((i64.wrap (s5.1+1)),(s5.2++[(i64.wrap ((t1.Xo.length:Int)+t11))])))) else (some (.inr s5.2))):Option ((Int×List Int)⊕((List Int))))) ((0:Int),p5)).bind λp6=>(some (.inr p6)))):Option ((List Int)⊕(List Int)))) s1 (t1.Xo.length:Int)).bind λt12=>(match t12 with | .inl s3=>(some s3) | .inr s3=>(some s3))).bind λp7=>(some (.inl p7)):Option ((List Int)⊕(List Int)))) ([]:List Int) (x_.Xa.length:Int)).bind λt2=>(match t2 with | .inl s1=>(QdT s1).bind λt13=>(Qm (λ(s6:Int×List Str)=>((if (decide (s6.1<(t13.length:Int)))=true then (idx t13 s6.1).bind λt14=>(idx t0.1 t14).bind λt15=>(rm (s6.2.length+[t15].length)).bind λ_=>(some (.inl ((i64.wrap (s6.1+1)),(s6.2++[t15])))) else (some (.inr s6.2))):Option ((Int×List Str)⊕((List Str))))) ((0:Int),([]:List Str))).bind λp8=>(some (p8,(0:Int))) | .inr _=>none))))
instance QCx:SpcS prog 9 (∀{x_:Qb} {r:(List Str)×Int},Qgc x_=some r->FnOk prog 9 [Qc.ty x_] [glo] (λ_=>[]) (λ_=>ttup [tsl rS r.1,ti r.2])):=.mk λ{x_ r} h=>by
 unfold Qgc at h
 refine FnOk.enterM func9 rfl ntmps9 (leb rfl) (λM0 M w0 a hpl H=>?_)
 replace H:St M w0 168 [(0,Qc.ty x_)] [glo] a w0:=H
 refine sr mx [] H (λ_=>.o (Ql5 (R:=Qc) (u:=x_) z0)<|.o (Qr (.nilsl (R:=rS)))<|.o (Qr .k)<|.n) λ_ a w H=>?_
 have H:=H.to [0] [_] [_] rfl rfl
 have⟨t0,h0,h⟩:=bs h
 refine sr mx [v1 5 (λv0=>box ((rSl rS).cs ([]:(List Str))) v0),v1 5 (λv0=>box ((rSl rS).cs t0.1) v0)] H (λ_=>.o (Qaa Qbk z0)<|.u [0] rfl rfl ((QN Qvi (QpX.ok h0) (.cons (.of z0)<|.nil)).glo)<|.q 0 rfl<|.o (Qag z0 rfl)<|.o (Qag z1 rfl)<|.m [] [1] rfl rfl rfl (QbG (R:=(rSl rS)) (a:=([]:(List Str))) Qjr zok25)<|.e [] [1] [2] rfl rfl rfl rfl (Qbe (R:=(rSl rS)) (a:=t0.1) Qjr z0 z2 (leb rfl))<|.o (Qr z1)<|.n) λ_ a w H=>?_
 replace H:St _ _ _ [_,_,_] [_] _ _:=((((H.pick [5,6,7]).Xk [1,0] rfl).Xl 0 rfl).add 0 rfl (λ_ _ _ h=>h.2)).pick [0,3,4]
 refine wp_seq_k (λ_ k0=>?_)
 refine sr mx [] H (λ_=>.q 1 rfl<|.o (Qlg z0 .k)<|.n) λ_ a w H=>?_
 have H:=H.t4_1 [1,2,3,4]
 refine wi H h (λb0 h=>?_) (λb0 h=>?_)
 ·refine sr mx [] H (λ_=>.q 2 rfl<|.o (Qr (.nilsl (R:=rS)))<|.o (Qr z1)<|.n) λ_ a w H=>?_
  have H:=H.t2_1 [1,2]
  refine wp_ret ?_
  obtain rfl:=sj h
  exact QmR (QeN undef [] hpl H rfl (.tmp z0 (.tmp z1 .nil)) rfl rfl rfl)
 refine wp_skip (k0 _ _ ?_)
 have⟨t1,h1,h⟩:=bs h
 refine sr mx [v1 2 (λv0=>box [tvs (.pointer none)] v0),v1 2 (λv0=>box ((rPtr QU).cs t1) v0)] H (λ_=>.o (Qaa Qbk z3)<|.u [0] rfl rfl ((QN Qvk (QpY.ok h1) (.cons (.of z0)<|.nil)).glo)<|.m [] [1] rfl rfl rfl (QbG (R:=rVal) (a:=.pointer none) tokP73 zokP)<|.e [] [1] [2] rfl rfl rfl rfl (Qbe (R:=(rPtr QU)) (a:=t1) Qiz z0 z1 (leb rfl))<|.n) λ_ a w H=>?_
 replace H:St _ _ _ [_,_,_] [_] _ _:=((((H.pick [2,4,6]).Xk [1,0] rfl).Xl 0 rfl).add 0 rfl (λ_ _ _ h=>h.2)).pick [0,3,4]
 refine wp_seq_k (λ_ k1=>?_)
 refine sr mx [] H (λ_=>.o (Qaa Qiz z0)<|.o (QiP z0)<|.o (Q6 Qj3 z0)<|.o (Q5 (u:=t1.Xo) Qmf z0 rfl)<|.o (QeM ud75 z0)<|.o (Qhi z0 .k)<|.n) λ_ a w H=>?_
 have H:=H.t4_1 [5,6,7,8]
 refine wi H h (λb1 h=>?_) (λb1 h=>?_)
 ·refine sr mx [] H (λ_=>.o (Qr (.nilsl (R:=rS)))<|.o (Qr .k)<|.n) λ_ a w H=>?_
  have H:=H.t2_1 [0,1]
  refine wp_ret ?_
  obtain rfl:=sj h
  exact QmR (QeN undef [] hpl H rfl (.tmp z0 (.tmp z1 .nil)) rfl rfl rfl)
 refine wp_skip (k1 _ _ ?_)
 refine sr mx [v1 3 (λv0=>box (rI.cs (0:Int)) v0),v1 3 (λv0=>box (rI.cs (x_.Xa.length:Int)) v0)] H (λ_=>.o (Q6 Qdo z3)<|.o (Q5 (u:=x_.Xa) Qku z0 rfl)<|.o (QeM ud29 z0)<|.m [] [1] rfl rfl rfl (QbG (R:=rI) (a:=(0:Int)) tok3 zok3)<|.e [] [1] [2] rfl rfl rfl rfl (Qbe (R:=rI) (a:=(x_.Xa.length:Int)) tok3 z0 z1 (leb rfl))<|.n) λ_ a w H=>?_
 replace H:St _ _ _ [_,_,_] [_] _ _:=((((H.pick [3,5,6]).Xk [1,0] rfl).Xl 0 rfl).add 0 rfl (λ_ _ _ h=>h.2)).pick [0,3,4]
 have⟨t2,h2,h⟩:=bs h
 refine sr mx [v1 1 (λv0=>own (rSn rI) 22 t2 v0),v1 2 (λv0=>box (rVal.cs nilV) v0),v2 1 2 (λv0 v1=>box (rVal.cs v0) v1)] H (λ_=>.o (Qaa tok3 z0)<|.m [] [1] rfl rfl rfl (Qg4 (R:=(rSn rI)) ud68 Qhm zokN22 (leb rfl) z0 z0 h2)<|.m [] [2] rfl rfl rfl (Qe9 QeR)<|.e [1] [2] [3] rfl rfl rfl rfl (Qda (R:=(rSn rI)) (e:=22) (Ts:=(rVal.cs nilV)) QeR z0 z1 (leb rfl))<|.n) λm0 a w H=>?_
 have H:=H.to [1,2,3,4,5] [_,_,_,_,_] [_,_,_] rfl rfl
 refine wp_seq_k (λK0 k2=>?_)
 refine sr mx [] H (λ_=>.u [2] rfl rfl (Qbf QeR z1)<|.u [1] rfl rfl (Qdl ud68 z0)<|.o (Qaj .k)<|.n) λ_ a w H=>?_
 have H:=H.to [0,1,2,3,4,5,6,7] [_,_,_,_,_,_,_,_] [_,_,_] rfl rfl
 have⟨e0,h3,h⟩:=bs h
 have J0:∀(p0:List (List Int)) a w,p0=e0->St M w0 168 [(8,tv (m0 2)),(7,tptr (rI.cs (x_.Xa.length:Int))),(6,tptr ((rPtr QU).cs t1)),(4,tptr ((rSl rS).cs t0.1))] [glo,own (rSn rI) 22 p0 (m0 1),box (rVal.cs (m0 1)) (m0 2)] a w->K0 a w:=by
  intro p0 a w he H;subst he;refine k2 _ _ ?_;refine wp_seq_k (λ_ k3=>?_);have⟨t3,h4,h⟩:=bs h;refine sr mx [] H (λ_=>.o (Qaa Qiz z2)<|.o (Qi4 (.cons z1<|.nil))<|.u [2,1] rfl rfl (QcU [box (rVal.cs (m0 1)) (m0 2),own (rSn rI) 22 p0 (m0 1)] QqN (QgS.ok h4) (.cons (.of z1)<|.cons (.of (Fct.Xp .fnE (QeQ QqM (λ_ _ hq=>QmH.ok hq))))<|.cons (QbP.cloL z0 (.cons (QuH (.head _) (.tail _ (.head _)))<|.nil) (QeQ Qvm (λ_ _ hq=>QpZ.ok hq)))<|.nil) (λ_=>Qci) (λ_=>QeO (x:=undef)))<|.n) λ_ a w H=>?_;have H:=H.to [2,3,4,5,6] [_,_,_,_,_] [_,_,_] rfl rfl;refine wi H h (λb2 h=>?_) (λb2 h=>?_)
  ·refine sr mx [] H (λ_=>.o (Qr (.nilsl (R:=rS)))<|.o (Qr .k)<|.n) λ_ a w H=>?_;replace H:St _ _ _ [_,_] [_] _ _:=(H.pick [0,1]).Xk [0] rfl;refine wp_ret ?_;obtain rfl:=sj h;exact QmR (QeN undef [] hpl H rfl (.tmp z0 (.tmp z1 .nil)) rfl rfl rfl)
  refine wp_skip (k3 _ _ ?_);refine sr mx [v1 0 (λv0=>box (rVal.cs nilV) v0)] H (λ_=>.m [] [3] rfl rfl rfl (Qe9 Qaz)<|.n) λm1 a w H=>?_;replace H:St _ _ _ [_,_,_,_,_] [_,_,_,_,_] _ _:=(H.pick [0,2,3,4,5]).nilN (rI) 3;refine wp_seq_k (λ_ k4=>?_);refine sr mx [] H (λ_=>.o (Qaa tok3 z2)<|.o (QN QqO QlG (.cons (.of z0)<|.nil))<|.n) λ_ a w H=>?_;have H:=H.to [1,2,3,4,5,6] [_,_,_,_,_,_] [_,_,_,_,_] rfl rfl;refine wp_block ?_;have⟨t2,h2,h⟩:=bs h;have H:=H.to [0,1,2,3,4,5] [_,_,_,_,_,_] [_,_,_,_,_] rfl rfl;refine QuU (A:=(λ(s1:List Int) y0=>[ownN rI 3 s1 y0,glo,own (rSn rI) 22 p0 (m0 1),box (rVal.cs (m0 1)) (m0 2),box (rVal.cs y0) (m1 0)])) (s0:=([]:List Int)) (g0:=nilV) (jump:=.ret) (jx:=.ret) .ret H z0 QqT (Qjv h2) (by decide) rfl (λs1 y0 m41 r h M0 M w0 a l LR43 LB43 K Q hLB43 hpl H hK hN hX=>?_) (λs1 y0 D a w M he hpm H=>?_) (λs1 y0 D a w M he hpm H=>?_)
  ·replace H:St M w0 168 [(60,tv (.int .u64 m41)),(10,tv (m1 0)),(8,tv (m0 2)),(7,tptr (rI.cs (x_.Xa.length:Int))),(6,tptr ((rPtr QU).cs t1)),(4,tptr ((rSl rS).cs t0.1))] [LR43,ownN rI 3 s1 y0,glo,own (rSn rI) 22 p0 (m0 1),box (rVal.cs (m0 1)) (m0 2),box (rVal.cs y0) (m1 0)] a w0:=H.pick [0,2,3,4,5,6];refine Qa3 mixed [v1 0 (λv0=>box ((rInt .u64).cs (0:Int)) v0),v1 0 (λv0=>box ((rInt .u64).cs m41) v0)] H (λ_=>.m [] [6] rfl rfl rfl (QbG (R:=(rInt .u64)) (a:=(0:Int)) QhU zok86)<|.e [] [6] [7] rfl rfl rfl rfl (Qbe (R:=(rInt .u64)) (a:=m41) QhU z0 z1 (leb rfl))<|.nil _ _) (by kernel_rfl) (λ_ a w H=>?_);replace H:St _ _ _ [_,_,_,_,_,_] [_,_,_,_,_,_] _ _:=((((H.pick [0,2,3,4,5,6]).Xk [6,0,1,2,3,4,5] rfl).Xl 0 rfl).add 0 rfl (λ_ _ _ h=>h.2)).pick [0,3,4,5,6,7];refine hK _ _ _ _ H (λw H=>?_);refine Qei ?_;refine Qaw (λ_ k5=>?_);refine Qa3 mixed [v1 0 (λv0=>box (rVal.cs nilV) v0)] H (λ_=>.m [] [6] rfl rfl rfl (Qe9 Qaz)<|.nil _ _) (by kernel_rfl) (λm2 a w H=>?_);replace H:St _ _ _ [_,_,_,_,_,_,_] [_,_,_,_,_,_,_,_] _ _:=(H.pick [0,1,2,3,4,5,6]).nil (rI) 3;refine k5 _ _ ?_;refine Qaw (λK1 k6=>?_);refine Qaw (λ_ k7=>?_);refine Qa3 mixed [] H (λ_=>.o (Qaa tok3 z4)<|.o (Qaj .k)<|.nil _ _) (by kernel_rfl) (λ_ a w H=>?_);have H:=H.to [0,1,2,3,4,5,6,7,8] [_,_,_,_,_,_,_,_,_] [_,_,_,_,_,_,_,_] rfl rfl;refine k7 _ _ ?_;have⟨e1,h5,h⟩:=bs h;have J1:∀(p1:List Int) (y1:Value) a w,p1=e1->St M w0 168 [(12,tv (m2 0)),(11,tptr ((rInt .u64).cs m41)),(10,tv (m1 0)),(8,tv (m0 2)),(7,tptr (rI.cs (x_.Xa.length:Int))),(6,tptr ((rPtr QU).cs t1)),(4,tptr ((rSl rS).cs t0.1))] [own rI 3 p1 y1,LB43,ownN rI 3 s1 y0,glo,own (rSn rI) 22 p0 (m0 1),box (rVal.cs (m0 1)) (m0 2),box (rVal.cs y0) (m1 0),box (rVal.cs y1) (m2 0)] a w->K1 a w:=by
    intro p1 y1 a w he H;subst he;refine k6 _ _ ?_;refine Qaw (λ_ k8=>?_);refine Qa3 mixed [] H (λ_=>.o (Qaa Qiz z5)<|.o (QiP z0)<|.o (Q6 Qj3 z0)<|.o (Q5 (u:=t1.Xo) Qmf z0 rfl)<|.o (QeM ud75 z0)<|.o (QN QqO QlG (.cons (.of z0)<|.nil))<|.nil _ _) (by kernel_rfl) (λ_ a w H=>?_);have H:=H.to [5,6,7,8,9,10,11,12] [_,_,_,_,_,_,_,_] [_,_,_,_,_,_,_,_] rfl rfl;refine k8 _ _ ?_;have⟨p2,h6,h⟩:=bs h;have J2:∀(y2:Value) a w,St M w0 168 [(10,tv (m1 0)),(8,tv (m0 2)),(7,tptr (rI.cs (x_.Xa.length:Int))),(6,tptr ((rPtr QU).cs t1)),(4,tptr ((rSl rS).cs t0.1))] [LB43,ownN rI 3 p2 y2,glo,own (rSn rI) 22 p0 (m0 1),box (rVal.cs (m0 1)) (m0 2),box (rVal.cs y2) (m1 0)] a w->Q .normal a w:=by
     intro y2 a w H;obtain rfl:=sj h;exact hN _ y2 _ [0,1,2,3,4,5] _ _ _ rfl H rfl (λ_=>rfl)
    replace h:=h6;clear h6;refine Qei ?_;have⟨t4,h7,h⟩:=bs h;have H:=H.to [0,1,2,3,4,5,6,7] [_,_,_,_,_,_,_,_] [_,_,_,_,_,_,_,_] rfl rfl;refine Qtz (A:=(λ(s2:List Int) y3=>[own rI 3 p1 y1,LB43,ownN rI 3 s2 y3,glo,own (rSn rI) 22 p0 (m0 1),box (rVal.cs (m0 1)) (m0 2),box (rVal.cs y3) (m1 0),box (rVal.cs y1) (m2 0)])) (s0:=s1) (g0:=y0) (jump:=(.exit 6)) (jx:=(.exit 6)) (.exit 6) hLB43 (.tail _ (.head _)) H z0 QqT (Qjv h7) (by decide) rfl (λs2 y3 m1394 r h M0 M w0 a l LR1396 LB1396 K Q hLB1396 hpl H hK hN hX=>?_) (λs2 y3 w he H=>?_) (λs2 y3 w he H=>?_)
    ·replace H:St M w0 168 [(92,tv (.int .u64 m1394)),(12,tv (m2 0)),(11,tptr ((rInt .u64).cs m41)),(10,tv (m1 0)),(8,tv (m0 2)),(7,tptr (rI.cs (x_.Xa.length:Int))),(6,tptr ((rPtr QU).cs t1)),(4,tptr ((rSl rS).cs t0.1))] [LR1396,own rI 3 p1 y1,LB43,ownN rI 3 s2 y3,glo,own (rSn rI) 22 p0 (m0 1),box (rVal.cs (m0 1)) (m0 2),box (rVal.cs y3) (m1 0),box (rVal.cs y1) (m2 0)] a w0:=H.pick [0,2,3,4,5,6,7,8];refine Qa3 mixed [v1 0 (λv0=>box ((rInt .u64).cs (0:Int)) v0),v1 0 (λv0=>box ((rInt .u64).cs m1394) v0)] H (λ_=>.m [] [9] rfl rfl rfl (QbG (R:=(rInt .u64)) (a:=(0:Int)) QhU zok86)<|.e [] [9] [10] rfl rfl rfl rfl (Qbe (R:=(rInt .u64)) (a:=m1394) QhU z0 z1 (leb rfl))<|.nil _ _) (by kernel_rfl) (λ_ a w H=>?_);replace H:St _ _ _ [_,_,_,_,_,_,_,_] [_,_,_,_,_,_,_,_,_] _ _:=((((H.pick [0,2,3,4,5,6,7,8]).Xk [9,0,1,2,3,4,5,6,7,8] rfl).Xl 0 rfl).add 0 rfl (λ_ _ _ h=>h.2)).pick [0,3,4,5,6,7,8,9];refine hK _ _ _ _ H (λw H=>?_);refine Qei ?_;refine Qaw (λ_ k9=>?_);have⟨t5,h8,h⟩:=bs h;refine Qa3 mixed [] H (λ_=>.u [8] rfl rfl (Qbf Qaz z1)<|.u [1] rfl rfl (Qdl ud22 z0)<|.o (Qaa QhU z2)<|.o (QN QqP (Qir.ok h8) (.cons (.of z0)<|.nil))<|.o (QaH z2 z0)<|.o (Qr z0)<|.nil _ _) (by kernel_rfl) (λ_ a w H=>?_);have H:=H.to [0,5,6,7,8,9,10,11,12,13] [_,_,_,_,_,_,_,_,_,_] [_,_,_,_,_,_,_,_,_] rfl rfl;refine k9 _ _ ?_;refine Qaw (λ_ k10=>?_);refine Qaw (λ_ k11=>?_);refine Qa3 mixed [] H (λ_=>.u [7] rfl rfl (Qbf Qaz z5)<|.u [3] rfl rfl (QuV ud22 z0)<|.q 0 rfl<|.g rfl rfl bq0 (λ_=>Qaj z4)<|.gu [7] rfl rfl rfl bq1 (λ_=>Qbf Qaz z9)<|.gu [3] rfl rfl rfl bq2 (λhc=>(Qdl ud22 (.cond z0 hc)).useN)<|.g rfl rfl bq3 (λhc=>Qno (.cond z2 hc) (.cond z0 hc))<|.o (QcY z4 (λhp=>(.cond z0 (beqT hp))))<|.q 0 rfl<|.g rfl rfl bq0 (λ_=>Qaj z10)<|.g rfl rfl bq1 (λ_=>Qaa Qjr z19)<|.g rfl rfl bq2 (λhc=>QeM ud25 (.cond z0 hc))<|.g rfl rfl bq3 (λhc=>Qhi (.cond z2 hc) (.cond z0 hc))<|.o (Qp4 z4 (λhp=>(.cond z0 (beqF hp))))<|.nil _ _) (by kernel_rfl) (λ_ a w H=>?_);have H:=H.t11_9 [0,13,14,16,17,18,19,20,21,22,23];refine k11 _ _ ?_;refine Qf2 1 H rfl (λb3=>?_) (λb3=>?_)
     ·replace h:=QcI b3 h;refine QhG ?_;obtain rfl:=sj h;exact hX _ y3 _ [0,1,2,3,4,5,6,7,8] _ _ _ rfl H rfl (λ_=>rfl)
     replace h:=QcJ b3 h;refine Qf3 ?_;refine k10 _ _ ?_;refine Qaw (λ_ k12=>?_);refine Qaw (λ_ k13=>?_);have⟨t6,h9,h⟩:=bs h;refine Qa3 mixed [] H (λ_=>.o (Qaa Qiz z9)<|.o (Qi4 (.cons z4<|.nil))<|.o (Qi4 (.cons z7<|.nil))<|.o (QN QqN (QgS.ok h9) (.cons (.of z2)<|.cons (.of (Fct.Xp z1 (QeQ Qvn (λ_ _ hq=>Qp1.ok hq))))<|.cons (.of (Fct.Xp z0 (QeQ Qvo (λ_ _ hq=>Qp2.ok hq))))<|.nil))<|.nil _ _) (by kernel_rfl) (λ_ a w H=>?_);have H:=H.t11_9 [3,4,6,7,8,9,10,11,12,13,14];refine k13 _ _ ?_;refine Qf2 0 H rfl (λb4=>?_) (λb4=>?_)
     ·replace h:=QcI b4 h;refine QhG ?_;obtain rfl:=sj h;exact hN _ y3 _ [0,1,2,3,4,5,6,7,8] _ _ _ rfl H rfl (λ_=>rfl)
     replace h:=QcJ b4 h;refine Qf3 ?_;refine k12 _ _ ?_;refine Qaw (λ_ k14=>?_);refine Qa3 mixed [v0 (box (rVal.cs nilV) (m1 0))] H (λ_=>.e [] [7] [9] rfl rfl rfl rfl (Qbe (R:=rVal) (a:=nilV) Qaz z6 .nilV (leb rfl))<|.nil _ _) (by kernel_rfl) (λ_ a w H=>?_);replace H:St _ _ _ [_,_,_,_,_,_,_,_,_,_] [_,_,_,_,_,_,_,_,_,_] _ _:=(H.pick [1,2,3,4,5,6,7,8,9,10]).nilN (rI) 3;refine k14 _ _ ?_;refine Qaw (λK2 k15=>?_);refine Qaw (λ_ k16=>?_);refine Qa3 mixed [] H (λ_=>.o (Qaa Qiz z8)<|.o (QiP z0)<|.o (Q6 Qj3 z0)<|.o (Q5 (u:=t1.Xo) Qmf z0 rfl)<|.o (QeM ud75 z0)<|.o (Qaj .k)<|.nil _ _) (by kernel_rfl) (λ_ a w H=>?_);have H:=H.to [4,5,6,7,8,9,10,11,12,13,14,15] [_,_,_,_,_,_,_,_,_,_,_,_] [_,_,_,_,_,_,_,_,_,_] rfl rfl;refine k16 _ _ ?_;have⟨e2,h10,h⟩:=bs h;have J3:∀(p3:List Int) (y4:Value) a w,p3=e2->St M w0 168 [(12,tv (m2 0)),(11,tptr ((rInt .u64).cs m41)),(10,tv (m1 0)),(8,tv (m0 2)),(7,tptr (rI.cs (x_.Xa.length:Int))),(6,tptr ((rPtr QU).cs t1)),(4,tptr ((rSl rS).cs t0.1))] [ownN rI 3 p3 y4,LB1396,own rI 3 p1 y1,LB43,glo,own (rSn rI) 22 p0 (m0 1),box (rVal.cs (m0 1)) (m0 2),box (rVal.cs y1) (m2 0),box (rVal.cs y4) (m1 0)] a w->K2 a w:=by
      intro p3 y4 a w he H;subst he;refine k15 _ _ ?_;refine Qaw (λK3 k17=>?_);refine Qaw (λ_ k18=>?_);refine Qa3 mixed [] H (λ_=>.u [7] rfl rfl (Qbf Qaz z0)<|.u [2] rfl rfl (Qdl ud22 z0)<|.o (Qaj .k)<|.nil _ _) (by kernel_rfl) (λ_ a w H=>?_);have H:=H.to [0,1,2,3,4,5,6,7,8,9] [_,_,_,_,_,_,_,_,_,_] [_,_,_,_,_,_,_,_,_] rfl rfl;refine k18 _ _ ?_;have⟨e3,h11,h⟩:=bs h;have J4:∀(p4:List Int) (y5:Value) a w,p4=e3->St M w0 168 [(12,tv (m2 0)),(11,tptr ((rInt .u64).cs m41)),(10,tv (m1 0)),(8,tv (m0 2)),(7,tptr (rI.cs (x_.Xa.length:Int))),(6,tptr ((rPtr QU).cs t1)),(4,tptr ((rSl rS).cs t0.1))] [ownN rI 3 p4 y5,LB1396,own rI 3 p1 y1,LB43,glo,own (rSn rI) 22 p0 (m0 1),box (rVal.cs (m0 1)) (m0 2),box (rVal.cs y1) (m2 0),box (rVal.cs y5) (m1 0)] a w->K3 a w:=by
       intro p4 y5 a w he H;subst he;refine k17 _ _ ?_;refine QhG ?_;obtain rfl:=sj h;exact hX _ y5 _ [0,1,2,3,4,5,6,7,8] _ _ _ rfl (H.Xk [1,2,3,0,4,5,6,8,7] rfl) rfl (λ_=>rfl)
      refine Qei ?_;refine Qlq _ (λ(s3:Int×List Int) a w=>∃y6:Value,St M w0 168 [(134,tv y1),(135,ti (p1.length:Int)),(136,ti s3.1),(12,tv (m2 0)),(11,tptr ((rInt .u64).cs m41)),(10,tv (m1 0)),(8,tv (m0 2)),(7,tptr (rI.cs (x_.Xa.length:Int))),(6,tptr ((rPtr QU).cs t1)),(4,tptr ((rSl rS).cs t0.1))] [ownN rI 3 s3.2 y6,LB1396,own rI 3 p1 y1,LB43,glo,own (rSn rI) 22 p0 (m0 1),box (rVal.cs (m0 1)) (m0 2),box (rVal.cs y1) (m2 0),box (rVal.cs y6) (m1 0)] a w) _ _ h11 ⟨y4,H.pick [0,1,2,3,4,5,6,7,8,9]⟩ ?_;clear h;intro s3 o a w K4 hI h ho k19;obtain⟨y6,H⟩:=hI;refine Qaw (λ_ k20=>?_);refine Qa3 mixed [] H (λ_=>.o (Qck z2 z1)<|.nil _ _) (by kernel_rfl) (λ_ a w H=>?_);have H:=H.t11_9 [0,1,2,3,4,5,6,7,8,9,10];refine k20 _ _ ?_;refine Qaw (λ_ k21=>?_);refine Qf2 0 H rfl (λb5=>?_) (λb5=>?_)
      ·replace h:=QcI b5 h;refine Qf3 ?_;refine k21 _ _ ?_;refine Qaw (λ_ k22=>?_);refine Qei ?_;refine Qaw (λ_ k23=>?_);have⟨t7,h12,h⟩:=bs h;refine Qa3 mixed [] H (λ_=>.u [2] rfl rfl (QaY ud22 tok3 z1 z3 h12)<|.u [2] rfl rfl (QdS tok3 z0 h12)<|.o (Qr z0)<|.nil _ _) (by kernel_rfl) (λ_ a w H=>?_);have H:=H.t11_9 [2,4,5,6,7,8,9,10,11,12,13];refine k23 _ _ ?_;have⟨u0,h13,h⟩:=bs h;refine Qa3 mixed [v1 9 (λv0=>ownN rI 3 (s3.2++[(i64.wrap ((t1.Xo.length:Int)+t7))]) v0),v1 9 (λv0=>box (rVal.cs v0) (m1 0))] H (λ_=>.u [8] rfl rfl (Qbf Qaz z6)<|.o (Qaa Qiz z10)<|.o (QiP z0)<|.o (Q6 Qj3 z0)<|.o (Q5 (u:=t1.Xo) Qmf z0 rfl)<|.o (QeM ud75 z0)<|.q 6 rfl<|.o (QaH z1 z0)<|.o (Qaq (R:=rI) (us:=[(i64.wrap ((t1.Xo.length:Int)+t7))]) ud22 tok3 (.cons z0<|.nil _) rfl (leb rfl))<|.e [] [0] [9] rfl rfl rfl rfl ((QaV (R:=rI) ud22 tok3 (leb rfl) z8 z0 h13).eatN (by simp))<|.e [9] [8] [10] rfl rfl rfl rfl ((Qda (R:=rI) (e:=3) (Ts:=(rVal.cs y6)) Qaz z16 z0 (leb rfl)).useN)<|.nil _ _) (by kernel_rfl) (λm3 a w H=>?_);have H:=H.t11_9 [9,11,12,13,14,15,16,17,18,19,20];refine k22 _ _ ?_;refine Qa3 mixed [] H (λ_=>.o (QaH z3 .k)<|.q 0 rfl<|.nil _ _) (by kernel_rfl) (λ_ a w H=>?_);have H:=H.t11_9 [1,2,3,4,5,6,7,8,9,10,11];exact k19 _ _ _ (sj h).symm ⟨(m3 9),(H.pick [2,3,0,4,5,6,7,8,9,10]).Xk [7,0,1,2,3,4,5,6,8] rfl⟩
      replace h:=QcJ b5 h;refine QhG ?_;exact J4 _ y6 _ _ (ho _ (sj h).symm) (H.pick [4,5,6,7,8,9,10])
     refine Qei ?_;refine Qlq _ (λ(s4:Int×List Int) a w=>∃y7:Value,St M w0 168 [(120,ti (t1.Xo.length:Int)),(121,ti s4.1),(14,tptr ((rInt .u64).cs m1394)),(12,tv (m2 0)),(11,tptr ((rInt .u64).cs m41)),(10,tv (m1 0)),(8,tv (m0 2)),(7,tptr (rI.cs (x_.Xa.length:Int))),(6,tptr ((rPtr QU).cs t1)),(4,tptr ((rSl rS).cs t0.1))] [ownN rI 3 s4.2 y7,LB1396,own rI 3 p1 y1,LB43,glo,own (rSn rI) 22 p0 (m0 1),box (rVal.cs (m0 1)) (m0 2),box (rVal.cs y1) (m2 0),box (rVal.cs y7) (m1 0)] a w) _ _ h10 ⟨nilV,(H.pick [0,1,4,5,6,7,8,9,10,11]).Xk [0,1,2,3,5,6,7,8,9] rfl⟩ ?_;clear h;intro s4 o a w K5 hI h ho k24;obtain⟨y7,H⟩:=hI;refine Qaw (λ_ k25=>?_);refine Qa3 mixed [] H (λ_=>.o (Qck z1 z0)<|.nil _ _) (by kernel_rfl) (λ_ a w H=>?_);have H:=H.t11_9 [0,1,2,3,4,5,6,7,8,9,10];refine k25 _ _ ?_;refine Qaw (λ_ k26=>?_);refine Qf2 0 H rfl (λb6=>?_) (λb6=>?_)
     ·replace h:=QcI b6 h;refine Qf3 ?_;refine k26 _ _ ?_;refine Qaw (λK6 k27=>?_);refine Qei ?_;refine Qaw (λ_ k28=>?_);refine Qa3 mixed [] H (λ_=>.q 2 rfl<|.o (Qr z0)<|.nil _ _) (by kernel_rfl) (λ_ a w H=>?_);have H:=H.t11_9 [1,3,4,5,6,7,8,9,10,11,12];refine k28 _ _ ?_;refine Qaw (λ_ k29=>?_);have⟨u1,h14,h⟩:=bs h;refine Qa3 mixed [] H (λ_=>.o (Qaa QhU z3)<|.q 1 rfl<|.o (QbC z1 z0 (Qix h14))<|.o (QcO z0 .k)<|.o (QcG z0 .k)<|.nil _ _) (by kernel_rfl) (λ_ a w H=>?_);have H:=H.to [4,5,6,7,8,9,10,11,12,13,14,15] [_,_,_,_,_,_,_,_,_,_,_,_] [_,_,_,_,_,_,_,_,_] rfl rfl;refine k29 _ _ ?_;have⟨p5,h15,h⟩:=bs h;have J5:∀(y8:Value) a w,St M w0 168 [(120,ti (t1.Xo.length:Int)),(121,ti s4.1),(14,tptr ((rInt .u64).cs m1394)),(12,tv (m2 0)),(11,tptr ((rInt .u64).cs m41)),(10,tv (m1 0)),(8,tv (m0 2)),(7,tptr (rI.cs (x_.Xa.length:Int))),(6,tptr ((rPtr QU).cs t1)),(4,tptr ((rSl rS).cs t0.1))] [LB1396,own rI 3 p1 y1,LB43,glo,own (rSn rI) 22 p0 (m0 1),box (rVal.cs (m0 1)) (m0 2),box (rVal.cs y1) (m2 0),ownN rI 3 p5 y8,box (rVal.cs y8) (m1 0)] a w->K6 a w:=by
       intro y8 a w H;refine k27 _ _ ?_;refine Qa3 mixed [] H (λ_=>.o (QaH z1 .k)<|.q 0 rfl<|.nil _ _) (by kernel_rfl) (λ_ a w H=>?_);have H:=H.to [1,2,3,4,5,6,7,8,9,10] [_,_,_,_,_,_,_,_,_,_] [_,_,_,_,_,_,_,_,_] rfl rfl;exact k24 _ _ _ (sj h).symm ⟨y8,(H.pick [1,0,2,3,4,5,6,7,8,9]).Xk [7,0,1,2,3,4,5,6,8] rfl⟩
      replace h:=h15;clear h15;refine Qf2 0 H rfl (λb7=>?_) (λb7=>?_)
      ·replace h:=QcI b7 h;have⟨u2,h16,h⟩:=bs h;refine Qa3 mixed [v1 3 (λv0=>ownN rI 3 (s4.2++[s4.1]) v0),v1 3 (λv0=>box (rVal.cs v0) (m1 0))] H (λ_=>.u [8] rfl rfl (Qbf Qaz z7)<|.q 2 rfl<|.o (Qaq (R:=rI) (us:=[s4.1]) ud22 tok3 (.cons z0<|.nil _) rfl (leb rfl))<|.e [] [0] [9] rfl rfl rfl rfl ((QaV (R:=rI) ud22 tok3 (leb rfl) z2 z0 h16).eatN (by simp))<|.e [9] [8] [10] rfl rfl rfl rfl ((Qda (R:=rI) (e:=3) (Ts:=(rVal.cs y7)) Qaz z11 z0 (leb rfl)).useN)<|.nil _ _) (by kernel_rfl) (λm4 a w H=>?_);have H:=H.t11_9 [3,6,7,8,9,10,11,12,13,14,15];obtain rfl:=sj h;exact J5 (m4 3) _ _ (H.pick [1,2,3,4,5,6,7,8,9,10])
      replace h:=QcJ b7 h;refine Qf3 ?_;obtain rfl:=sj h;exact J5 y7 _ _ ((H.pick [2,3,4,5,6,7,8,9,10,11]).Xk [1,2,3,4,5,6,7,0,8] rfl)
     replace h:=QcJ b6 h;refine QhG ?_;exact J3 _ y7 _ _ (ho _ (sj h).symm) (H.pick [4,5,6,7,8,9,10])
    ·subst he;simp only at h;have H:=H.to [1,2,3,4,5,6,7] [_,_,_,_,_,_,_] [_,_,_,_,_,_,_,_] rfl rfl;obtain rfl:=sj h;exact J2 y3 _ _ ((H.pick [2,3,4,5,6]).Xk [1,2,3,4,5,6] rfl)
    subst he;simp only at h;have H:=H.to [1,2,3,4,5,6,7] [_,_,_,_,_,_,_] [_,_,_,_,_,_,_,_] rfl rfl;obtain rfl:=sj h;exact J2 y3 _ _ ((H.pick [2,3,4,5,6]).Xk [1,2,3,4,5,6] rfl)
   refine Qei ?_;refine Qlq _ (λ(s5:Int×List Int) a w=>∃y9:Value,St M w0 168 [(61,ti (x_.Xa.length:Int)),(62,ti s5.1),(12,tv (m2 0)),(11,tptr ((rInt .u64).cs m41)),(10,tv (m1 0)),(8,tv (m0 2)),(7,tptr (rI.cs (x_.Xa.length:Int))),(6,tptr ((rPtr QU).cs t1)),(4,tptr ((rSl rS).cs t0.1))] [own rI 3 s5.2 y9,LB43,ownN rI 3 s1 y0,glo,own (rSn rI) 22 p0 (m0 1),box (rVal.cs (m0 1)) (m0 2),box (rVal.cs y0) (m1 0),box (rVal.cs y9) (m2 0)] a w) _ _ h5 ⟨nilV,H.pick [0,1,2,3,4,5,6,7,8]⟩ ?_;clear h;intro s5 o a w K7 hI h ho k30;obtain⟨y9,H⟩:=hI;refine Qaw (λ_ k31=>?_);refine Qa3 mixed [] H (λ_=>.o (Qck z1 z0)<|.nil _ _) (by kernel_rfl) (λ_ a w H=>?_);have H:=H.to [0,1,2,3,4,5,6,7,8,9] [_,_,_,_,_,_,_,_,_,_] [_,_,_,_,_,_,_,_] rfl rfl;refine k31 _ _ ?_;refine Qaw (λ_ k32=>?_);refine Qf2 0 H rfl (λb8=>?_) (λb8=>?_)
   ·replace h:=QcI b8 h;refine Qf3 ?_;refine k32 _ _ ?_;refine Qaw (λK8 k33=>?_);refine Qei ?_;refine Qaw (λ_ k34=>?_);refine Qa3 mixed [] H (λ_=>.q 2 rfl<|.o (Qr z0)<|.nil _ _) (by kernel_rfl) (λ_ a w H=>?_);have H:=H.to [1,3,4,5,6,7,8,9,10,11] [_,_,_,_,_,_,_,_,_,_] [_,_,_,_,_,_,_,_] rfl rfl;refine k34 _ _ ?_;refine Qaw (λ_ k35=>?_);have⟨u3,h17,h⟩:=bs h;refine Qa3 mixed [] H (λ_=>.o (Qaa QhU z4)<|.q 1 rfl<|.o (QbC z1 z0 (Qix h17))<|.o (QcO z0 .k)<|.o (QcG z0 .k)<|.nil _ _) (by kernel_rfl) (λ_ a w H=>?_);have H:=H.to [4,5,6,7,8,9,10,11,12,13,14] [_,_,_,_,_,_,_,_,_,_,_] [_,_,_,_,_,_,_,_] rfl rfl;refine k35 _ _ ?_;have⟨p6,h18,h⟩:=bs h;have J6:∀(y10:Value) a w,St M w0 168 [(61,ti (x_.Xa.length:Int)),(62,ti s5.1),(12,tv (m2 0)),(11,tptr ((rInt .u64).cs m41)),(10,tv (m1 0)),(8,tv (m0 2)),(7,tptr (rI.cs (x_.Xa.length:Int))),(6,tptr ((rPtr QU).cs t1)),(4,tptr ((rSl rS).cs t0.1))] [LB43,ownN rI 3 s1 y0,glo,own (rSn rI) 22 p0 (m0 1),box (rVal.cs (m0 1)) (m0 2),box (rVal.cs y0) (m1 0),own rI 3 p6 y10,box (rVal.cs y10) (m2 0)] a w->K8 a w:=by
     intro y10 a w H;refine k33 _ _ ?_;refine Qa3 mixed [] H (λ_=>.o (QaH z1 .k)<|.q 0 rfl<|.nil _ _) (by kernel_rfl) (λ_ a w H=>?_);have H:=H.to [1,2,3,4,5,6,7,8,9] [_,_,_,_,_,_,_,_,_] [_,_,_,_,_,_,_,_] rfl rfl;exact k30 _ _ _ (sj h).symm ⟨y10,(H.pick [1,0,2,3,4,5,6,7,8]).Xk [6,0,1,2,3,4,5,7] rfl⟩
    replace h:=h18;clear h18;refine Qf2 0 H rfl (λb9=>?_) (λb9=>?_)
    ·replace h:=QcI b9 h;refine Qaw (λ_ k36=>?_);have⟨t8,h19,u4,h20,h⟩:=bs2 h;refine Qa3 mixed [v1 5 (λv0=>own rI 3 (s5.2++t8) v0),v1 5 (λv0=>box (rVal.cs v0) (m2 0))] H (λ_=>.u [7] rfl rfl (Qbf Qaz z4)<|.u [5] rfl rfl (Qbf QeR z8)<|.q 3 rfl<|.u [4] rfl rfl (QaY ud68 Qhm z1 z0 h19)<|.u [4] rfl rfl (QdS Qhm z0 h19)<|.e [] [0] [8] rfl rfl rfl rfl (QaV (R:=rI) ud22 tok3 (leb rfl) z4 (.left z0) h20)<|.e [8] [7] [9] rfl rfl rfl rfl (Qda (R:=rI) (e:=3) (Ts:=(rVal.cs y9)) Qaz z10 z0 (leb rfl))<|.nil _ _) (by kernel_rfl) (λm5 a w H=>?_);have H:=H.to [1,5,7,8,9,10,11,12,13,14,15,16] [_,_,_,_,_,_,_,_,_,_,_,_] [_,_,_,_,_,_,_,_] rfl rfl;refine k36 _ _ ?_;refine Qaw (λ_ k37=>?_);have⟨t9,h21,h⟩:=bs h;refine Qa3 mixed [] H (λ_=>.u [4] rfl rfl (Qbf QeR z8)<|.q 3 rfl<|.u [3] rfl rfl (QaY ud68 Qhm z1 z0 h21)<|.u [3] rfl rfl (QdS Qhm z0 h21)<|.o (Qpb ud22 z0)<|.nil _ _) (by kernel_rfl) (λ_ a w H=>?_);have H:=H.to [0,4,5,6,8,9,10,11,12,13,14,15,16] [_,_,_,_,_,_,_,_,_,_,_,_,_] [_,_,_,_,_,_,_,_] rfl rfl;refine k37 _ _ ?_;have⟨p7,h22,h⟩:=bs h;have J7:∀(y11:Value) a w,St M w0 168 [(61,ti (x_.Xa.length:Int)),(62,ti s5.1),(12,tv (m2 0)),(11,tptr ((rInt .u64).cs m41)),(10,tv (m1 0)),(8,tv (m0 2)),(7,tptr (rI.cs (x_.Xa.length:Int))),(6,tptr ((rPtr QU).cs t1)),(4,tptr ((rSl rS).cs t0.1))] [LB43,ownN rI 3 s1 y0,glo,own (rSn rI) 22 p0 (m0 1),box (rVal.cs (m0 1)) (m0 2),box (rVal.cs y0) (m1 0),own rI 3 p7 y11,box (rVal.cs y11) (m2 0)] a w->K8 a w:=by
      intro y11 a w H;obtain rfl:=sj h;exact J6 y11 _ _ (H.pick [0,1,2,3,4,5,6,7,8])
     replace h:=h22;clear h22;refine Qf2 1 H rfl (λb10=>?_) (λb10=>?_)
     ·replace h:=QcI b10 h;have⟨t10,h23,h⟩:=bs h;refine Qa3 mixed [v1 3 (λv0=>own rI 3 t10 v0),v1 3 (λv0=>box (rVal.cs v0) (m2 0))] H (λ_=>.o (Qaa Qjr z12)<|.o (QeM ud25 z0)<|.o (QaH z0 .k)<|.m [] [8] rfl rfl rfl (Qg4 (R:=rI) ud22 tok3 zok3 (leb rfl) z0 z0 h23)<|.e [8] [7] [9] rfl rfl rfl rfl (Qda (R:=rI) (e:=3) (Ts:=(rVal.cs (m5 5))) Qaz z10 z0 (leb rfl))<|.nil _ _) (by kernel_rfl) (λm6 a w H=>?_);have H:=H.to [3,4,6,7,8,9,10,11,12,13,14,15,16] [_,_,_,_,_,_,_,_,_,_,_,_,_] [_,_,_,_,_,_,_,_,_] rfl rfl;obtain rfl:=sj h;exact J7 (m6 3) _ _ ((H.pick [4,5,6,7,8,9,10,11,12]).Xk [0,1,2,3,4,5,7,8] rfl)
     replace h:=QcJ b10 h;refine Qf3 ?_;obtain rfl:=sj h;exact J7 (m5 5) _ _ (H.pick [4,5,6,7,8,9,10,11,12])
    replace h:=QcJ b9 h;refine Qf3 ?_;obtain rfl:=sj h;exact J6 y9 _ _ ((H.pick [2,3,4,5,6,7,8,9,10]).Xk [1,2,3,4,5,6,0,7] rfl)
   replace h:=QcJ b8 h;refine QhG ?_;exact J1 _ y9 _ _ (ho _ (sj h).symm) (H.pick [3,4,5,6,7,8,9])
  ·subst he;simp only at h;replace hpl:=hpm _ _ hpl;have H:=H.to [1,2,3,4,5] [_,_,_,_,_] [_,_,_,_,_,_] rfl rfl;refine k4 _ _ ?_;refine wp_seq_k (λ_ k38=>?_);replace H:St _ _ _ [_,_,_,_,_] [_,_,_,_,_,_] _ _:=(H.Xk [1,0,2,3,4,5] rfl).unN;have⟨t11,h24,h⟩:=bs h;refine wr mx [v0 (own rI 3 t11 y0)] H (λ_=>.u [5] rfl rfl (Qbf Qaz z0)<|.e [] [0] [6] rfl rfl rfl rfl (QN Qvp (Qlv h24) (.cons (.of z0)<|.nil))<|.n) λ_ a w H=>?_;replace H:St _ _ _ [_,_,_] [_,_,_,_] _ _:=(H.pick [0,2,6]).Xk [0,1,4,5] rfl;refine k38 _ _ ?_;refine sr mx [] H (λ_=>.o (Qr .k)<|.n) λ_ a w H=>?_;replace H:St _ _ _ [_,_,_,_] [_,_,_,_,_] _ _:=(H.pick [0,1,2,3]).nil (rS) 9;refine wp_seq_k (λK9 k39=>?_);refine sr mx [] H (λ_=>.u [3] rfl rfl (Qbf Qaz z2)<|.u [4] rfl rfl (Qdl ud22 z0)<|.o (Qaj .k)<|.n) λ_ a w H=>?_;replace H:St _ _ _ [_,_,_,_,_,_] [_,_,_,_] _ _:=(H.pick [0,1,2,3,4,6]).Xk [0,1,2,4] rfl;have⟨e4,h25,h⟩:=bs h;have J8:∀(p8:List Str) (y12:Value) a w,p8=e4->St M w0 168 [(19,tv y12)] [own rS 9 p8 y12,objA D defO,glo] a w->K9 a w:=by
    intro p8 y12 a w he H;subst he;refine k39 _ _ ?_;refine sr mx [] H (λ_=>.q 0 rfl<|.o (Qr z0)<|.o (Qr .k)<|.n) λ_ a w H=>?_;have H:=H.to [0,1,2,3] [_,_,_,_] [_,_,_] rfl rfl;refine wp_ret ?_;replace H:St _ _ _ [_,_] [_,_] _ _:=(H.Xn 1 rfl).pick [0,3];obtain rfl:=sj h;exact QtA undef [] hpl H rfl (.tmp z0 (.tmp z1 .nil)) rfl rfl rfl
   refine wp_block ?_;refine Qg5 _ (λ(s6:Int×List Str) a w=>∃y13:Value,St M w0 168 [(153,tv y0),(154,ti (t11.length:Int)),(155,ti s6.1),(19,tv y13),(4,tptr ((rSl rS).cs t0.1))] [own rS 9 s6.2 y13,objA D defO,glo,own rI 3 t11 y0] a w) _ _ h25 ⟨(.slice none 0 0),H.pick [0,1,2,3,5]⟩ ?_;clear h;intro s6 o a w K10 hI h ho k40;obtain⟨y13,H⟩:=hI;refine sr mx [] H (λ_=>.o (Qck z2 z1)<|.n) λ_ a w H=>?_;have H:=H.t6_4 [0,1,2,3,4,5];refine wp_seq_k (λ_ k41=>?_);refine wi H h (λb11 h=>?_) (λb11 h=>?_)
   ·refine wp_skip (k41 _ _ ?_);refine wp_seq_k (λ_ k42=>?_);refine wp_block ?_;have⟨t12,h26,h⟩:=bs h;refine sr mx [] H (λ_=>.u [3] rfl rfl (QaY ud22 tok3 z1 z3 h26)<|.u [3] rfl rfl (QdS tok3 z0 h26)<|.o (Qr z0)<|.n) λ_ a w H=>?_;have H:=H.t6_4 [2,4,5,6,7,8];have⟨t13,h27,u5,h28,h⟩:=bs2 h;refine wr mx [v1 6 (λv0=>own rS 9 (s6.2++[t13]) v0)] H (λ_=>.q 4 rfl<|.o (Qaa Qjr z6)<|.q 2 rfl<|.o (Qc0 ud25 tok9 z1 z0 h27)<|.o (Qaa tok9 z0)<|.o (Qaq (R:=rS) (us:=[t13]) ud25 tok9 (.cons z0<|.nil _) rfl (leb rfl))<|.e [] [0] [4] rfl rfl rfl rfl (QaV (R:=rS) ud25 tok9 (leb rfl) z5 z0 h28)<|.ud (f:=λv=>tv v) 6 rfl [] rfl rfl (Qr z0)<|.n) λm7 a w H=>?_;have H:=H.t6_4 [6,7,9,10,11,12];refine k42 _ _ ?_;refine wr mx [] H (λ_=>.o (QaH z4 .k)<|.q 0 rfl<|.n) λ_ a w H=>?_;have H:=H.t6_4 [1,2,3,4,5,6];exact k40 _ _ _ (sj h).symm ⟨(m7 6),(H.pick [3,4,0,2,5]).Xk [3,0,1,2] rfl⟩
   refine wp_exit ?_;exact J8 _ y13 _ _ (ho _ (sj h).symm) ((H.pick [4]).Xk [0,1,2] rfl)
  subst he;simp only at h;cases h
 refine wp_block ?_;refine Qg5 _ (λ(s7:Int×List (List Int)) a w=>St M w0 168 [(44,ti (t2.length:Int)),(45,ti s7.1),(8,tv (m0 2)),(7,tptr (rI.cs (x_.Xa.length:Int))),(6,tptr ((rPtr QU).cs t1)),(4,tptr ((rSl rS).cs t0.1))] [glo,own (rSn rI) 22 s7.2 (m0 1),box (rVal.cs (m0 1)) (m0 2)] a w) _ _ h3 (H.pick [1,2,4,5,6,7]) ?_;clear h;intro s7 o a w K11 hI h ho k43;have H:=hI;clear hI;refine sr mx [] H (λ_=>.o (Qck z1 z0)<|.n) λ_ a w H=>?_;have H:=H.to [0,1,2,3,4,5,6] [_,_,_,_,_,_,_] [_,_,_] rfl rfl;refine wp_seq_k (λ_ k44=>?_);refine wi H h (λb12 h=>?_) (λb12 h=>?_)
 ·refine wp_skip (k44 _ _ ?_);refine wp_seq_k (λ_ k45=>?_);refine wp_block ?_;refine sr mx [] H (λ_=>.q 2 rfl<|.o (Qr z0)<|.n) λ_ a w H=>?_;have H:=H.to [1,3,4,5,6,7,8] [_,_,_,_,_,_,_] [_,_,_] rfl rfl;have⟨t14,h29,t15,h30,h⟩:=bs2 h;refine wr mx [v0 (own (rSn rI) 22 t15 (m0 1))] H (λ_=>.u [2] rfl rfl (Qbf QeR z3)<|.q 1 rfl<|.o (Qaa Qiz z7)<|.q 3 rfl<|.o (QN Qvl (Qla.ok h29) (.cons (.of z1)<|.cons (.of z0)<|.cons (.of (Fct.Xp .fnE (QeQ QqM (λ_ _ hq=>QmH.ok hq))))<|.nil))<|.u [1] rfl rfl (Qhk ud68 Qhm z4 z3 h30)<|.e [] [1] [3] rfl rfl rfl rfl (Qhb Qhm z0 z1 h30)<|.n) λ_ a w H=>?_;have H:=H.to [0,7,8,9,10,11,12] [_,_,_,_,_,_,_] [_,_,_] rfl rfl;refine k45 _ _ ?_;refine wr mx [] H (λ_=>.o (QaH z2 .k)<|.q 0 rfl<|.n) λ_ a w H=>?_;have H:=H.to [1,2,3,4,5,6,7] [_,_,_,_,_,_,_] [_,_,_] rfl rfl;exact k43 _ _ _ (sj h).symm ((H.pick [2,0,3,4,5,6]).Xk [0,2,1] rfl)
 refine wp_exit ?_;exact J0 _ _ _ (ho _ (sj h).symm) (H.pick [3,4,5,6])
def QaO (n_:Int) (least_:Int) (most_:Int):Option (Bool):=(some ((decide (n_>=least_))&&(decide (n_<=most_))))
instance QyZ:Spc3 prog 185 QaO (λn_ least_ most_=>[ti n_,ti least_,ti most_]) tb:=.mk λ{n_ least_ most_ r} h=>by
 unfold QaO at h
 refine Fe func185 ntmps185 λM0 M w0 hpl=>?_
 refine Qa [1,2,3] ?_
 refine Qa [8] ?_
 exact Qo h (·▸Ql hpl)
def Qee (c_:Int):Option (Bool):=(some ((decide (c_>=97))&&(decide (c_<=122))))
instance Qy0:Spc1 prog 226 Qee (λc_=>[tv (.int .u8 c_)]) tb:=.mk λ{c_ r} h=>by
 unfold Qee at h
 refine Fe func226 ntmps226 λM0 M w0 hpl=>?_
 refine Qa [1] ?_
 refine Qa [6] ?_
 exact Qo h (·▸Ql hpl)
def Qhp (c_:Int):Option (Bool):=(some ((decide (c_>=48))&&(decide (c_<=57))))
instance QBm:Spc1 prog 227 Qhp (λc_=>[tv (.int .u8 c_)]) tb:=.mk λ{c_ r} h=>by
 unfold Qhp at h
 refine Fe func227 ntmps227 λM0 M w0 hpl=>?_
 refine Qa [1] ?_
 refine Qa [6] ?_
 exact Qo h (·▸Ql hpl)
def Qa4 (s_:Str):Option (Bool):=(opt (((decide ((s_.length:Int)<1))||(decide ((s_.length:Int)>12)))==false) (idx s_ 0) default).bind λt0=>(opt (((decide ((s_.length:Int)<1))||(decide ((s_.length:Int)>12)))==false) (Qee (t0.toNat:Int)) default).bind λt1=>(if (((decide ((s_.length:Int)<1))||(decide ((s_.length:Int)>12)))||(!t1))=true then (some false) else (Qm (λ(s0:Int)=>((if (decide (s0<(s_.length:Int)))=true then (idx s_ s0).bind λt2=>(Qee (t2.toNat:Int)).bind λt3=>(opt ((!t3)==true) (idx s_ s0) default).bind λt4=>(opt ((!t3)==true) (Qhp (t4.toNat:Int)) default).bind λt5=>(if ((!t3)&&(!t5))=true then (some (.inr (.inr false))) else (some (.inl (i64.wrap (s0+1))))) else (some (.inr (.inl ())))):Option ((Int)⊕((Unit)⊕(Bool))))) (0:Int)).bind λe0=>(match e0 with | .inl _=>(some true) | .inr p0=>(some p0)))
instance Qy1:Spc1 prog 213 Qa4 (λs_=>[tv (.string (sB s_))]) tb:=.mk λ{s_ r} h=>by
 unfold Qa4 at h
 refine Fe func213 ntmps213 λM0 M w0 hpl=>?_
 refine Qa [1] ?_
 have⟨_,_,_,_,h⟩:=bs2 h
 refine tIfs h [13,14] (λ_ h=>?_) (λ_ h=>?_)
 ·refine Qa [0] ?_
  exact Qo h (·▸Ql hpl)
 refine Qf λK0 k0=>?_
 refine Qa [0,2] ?_
 have⟨e0,h0,h⟩:=bs h
 have J0:∀(p0:Unit),(.inl p0)=e0->To M w0 36 [] [] K0:=by
  intro p0 he;subst he;simp only at h;refine k0 <|Qa [0] ?_;exact Qo h (·▸Ql hpl)
 have J1:∀(p1:Bool),(.inr p1)=e0->To M w0 36 [(2,tb p1)] [] (Ret prog f213 M0 [] w0 (λ_=>[]) (λ_=>tb r) .ret):=by
  intro p1 he;subst he;simp only at h;obtain rfl:=sj h;exact Ql hpl
 refine Qj <|Qai h0 (λ(s0:Int)=>[(3,ti s0),(0,tv (.string (sB s_)))]) (λ(s0:Int)=>[]) [0,1] ?_;clear h;intro s0 o K1 h ho k1;refine Qf λ_ k2=>Qa [3,4,5] ?_;refine Qn h (λ_ h=>?_) (λ_ h=>?_)
 ·refine Qq <|k2 <|Qf λ_ k3=>Qj ?_;have⟨_,_,_,_,_,_,_,_,h⟩:=bs4 h;refine Qa [11,13,14] ?_;refine Qn h (λ_ h=>?_) (λ_ h=>?_)
  ·refine Qa [0] ?_;refine Qam ?_;exact Qu J1 (ho _ (sj h).symm) [0]
  refine Qq <|k3 <|QL [2,4] ?_;exact Qu k1 ((sj h).symm) [0,1]
 refine QO <|Qu J0 (ho _ (sj h).symm) []
def Qdd (lo_:Int) (hi_:Int) (least_:Int) (most_:Int):Option (Bool):=(some (((decide (lo_>=least_))&&(decide (lo_<=hi_)))&&(decide (hi_<=most_))))
instance QCj:Spc4 prog 214 Qdd (λlo_ hi_ least_ most_=>[ti lo_,ti hi_,ti least_,ti most_]) tb:=.mk λ{lo_ hi_ least_ most_ r} h=>by
 unfold Qdd at h
 refine Fe func214 ntmps214 λM0 M w0 hpl=>?_
 refine Qa [1,2,3,4] ?_
 refine Qa [13] ?_
 exact Qo h (·▸Ql hpl)
def Qbr (kind_:Int):Option (Bool×Bool×Bool×Bool×Bool):=(some (((((((kind_==1)||(kind_==4))||(kind_==5))||(kind_==6))||(kind_==7))||(kind_==8)),((kind_==7)||(kind_==8)),((((((kind_==1)||(kind_==2))||(kind_==4))||(kind_==5))||(kind_==7))||(kind_==0)),(((((kind_==1)||(kind_==2))||(kind_==4))||(kind_==5))||(kind_==7)),(kind_==3)))
instance QCk:Spc1 prog 228 Qbr (λkind_=>[ti kind_]) (λr=>ttup [tb r.1,tb r.2.1,tb r.2.2.1,tb r.2.2.2.1,tb r.2.2.2.2]):=.mk λ{kind_ r} h=>by
 unfold Qbr at h
 refine Fe func228 ntmps228 λM0 M w0 hpl=>?_
 refine Qa [5] ?_
 refine Qa [22,23] ?_
 refine Qa [6,7,8] ?_
 refine Qa [18,19,20,21] ?_
 refine Qa [10,11,12,13,14] ?_
 exact Qo h (·▸Ql hpl)
def QeY (l_:(List Str)):Option (Bool):=(Qm (λ(s0:Int)=>((if (decide (s0<(l_.length:Int)))=true then (idx l_ s0).bind λt0=>(Qa4 t0).bind λt1=>(if (!t1)=true then (some (.inr (.inr false))) else (some (.inl (i64.wrap (s0+1))))) else (some (.inr (.inl ())))):Option ((Int)⊕((Unit)⊕(Bool))))) (0:Int)).bind λe0=>(match e0 with | .inl _=>(some true) | .inr p0=>(some p0))
instance QBn:Spc1 prog 216 QeY (λl_=>[tsl rS l_]) tb:=.mk λ{l_ r} h=>by
 unfold QeY at h
 refine Fe func216 ntmps216 λM0 M w0 hpl=>?_
 refine Qa [1] ?_
 refine Qf λK0 k0=>?_
 refine Qa [0,1] ?_
 have⟨e0,h0,h⟩:=bs h
 have J0:∀(p0:Unit),(.inl p0)=e0->To M w0 16 [] [] K0:=by
  intro p0 he;subst he;simp only at h;refine k0 <|Qa [0] ?_;exact Qo h (·▸Ql hpl)
 have J1:∀(p1:Bool),(.inr p1)=e0->To M w0 16 [(2,tb p1)] [] (Ret prog f216 M0 [] w0 (λ_=>[]) (λ_=>tb r) .ret):=by
  intro p1 he;subst he;simp only at h;obtain rfl:=sj h;exact Ql hpl
 refine Qj <|Qai h0 (λ(s0:Int)=>[(3,ti s0),(0,tsl rS l_)]) (λ(s0:Int)=>[]) [0,1] ?_;clear h;intro s0 o K1 h ho k1;refine Qf λ_ k2=>Qa [3,4,5] ?_;refine Qn h (λ_ h=>?_) (λ_ h=>?_)
 ·refine Qq <|k2 <|Qf λ_ k3=>Qj ?_;have⟨_,_,_,_,h⟩:=bs2 h;refine Qa [5,7,8] ?_;refine Qn h (λ_ h=>?_) (λ_ h=>?_)
  ·refine Qa [0] ?_;refine Qam ?_;exact Qu J1 (ho _ (sj h).symm) [0]
  refine Qq <|k3 <|QL [2,4] ?_;exact Qu k1 ((sj h).symm) [0,1]
 refine QO <|Qu J0 (ho _ (sj h).symm) []
def QfB (f_:Qd):Option (Bool):=(Qm (λ(s0:Int×Int)=>((if (decide (s0.1<(f_.Xf.length:Int)))=true then (idx f_.Xf s0.1).bind λt0=>(QaO t0 0 1048576).bind λt1=>(if (!t1)=true then (some (.inr (.inr false))) else (idx f_.Xf s0.1).bind λt2=>(some (.inl ((i64.wrap (s0.1+1)),(i64.wrap (s0.2+t2)))))) else (some (.inr (.inl s0.2)))):Option ((Int×Int)⊕((Int)⊕(Bool))))) ((0:Int),(0:Int))).bind λe0=>(match e0 with | .inl p0=>(QaO (f_.Words.length:Int) 1 12).bind λt3=>(opt (((t3&&((f_.Words.length:Int)==(f_.Xf.length:Int)))&&(decide (p0>0)))==true) (QeY f_.Words) default).bind λt4=>(some (((t3&&((f_.Words.length:Int)==(f_.Xf.length:Int)))&&(decide (p0>0)))&&t4)) | .inr p1=>(some p1))
instance Qy2:Spc1 prog 229 QfB (λf_=>[Qe.ty f_]) tb:=.mk λ{f_ r} h=>by
 unfold QfB at h
 refine Fe func229 ntmps229 λM0 M w0 hpl=>?_
 refine Qa [0] ?_
 refine Qa [0,1] ?_
 refine Qf λK0 k0=>?_
 refine Qa [0,1,2] ?_
 have⟨e0,h0,h⟩:=bs h
 have J0:∀(p0:Int),(.inl p0)=e0->To M w0 48 [(3,ti p0),(1,tptr (Qe.cs f_))] [] K0:=by
  intro p0 he;subst he;simp only at h;refine k0 ?_;have⟨_,_,_,_,h⟩:=bs2 h;refine Qa [22] ?_;exact Qo h (·▸Ql hpl)
 have J1:∀(p1:Bool),(.inr p1)=e0->To M w0 48 [(2,tb p1)] [] (Ret prog f229 M0 [] w0 (λ_=>[]) (λ_=>tb r) .ret):=by
  intro p1 he;subst he;simp only at h;obtain rfl:=sj h;exact Ql hpl
 refine Qj <|Qai h0 (λ(s0:Int×Int)=>[(4,ti s0.1),(3,ti s0.2),(1,tptr (Qe.cs f_))]) (λ(s0:Int×Int)=>[]) [0,1,2] ?_;clear h;intro s0 o K1 h ho k1;refine Qf λ_ k2=>Qa [4,5,6,7] ?_;refine Qn h (λ_ h=>?_) (λ_ h=>?_)
 ·refine Qq <|k2 <|Qf λ_ k3=>Qj ?_;have⟨_,_,_,_,h⟩:=bs2 h;refine tIfs h [6,8,9,10] (λ_ h=>?_) (λ_ h=>?_)
  ·refine Qa [0] ?_;refine Qam ?_;exact Qu J1 (ho _ (sj h).symm) [0]
  have⟨_,_,h⟩:=bs h;refine QL [7,9,10] ?_;refine k3 <|QL [2,3,4] ?_;exact Qu k1 ((sj h).symm) [0,1,2]
 refine QO <|Qu J0 (ho _ (sj h).symm) [2,3]
