/- Go functions as Lean functions, and the proofs that they compute them, written by a program. No condition. -/
import Derived.Test.YtcdccjagknlmpaaGreatDoorGenB
namespace Go.Proofs.YtcdccjagknlmpaaGreatDoor
open Go.Sim
set_option maxRecDepth 100000
set_option maxHeartbeats 4000000

/- diorama/schema.isPick -/
noncomputable def Qcy (words_ : (List Str)) (weights_ : (List Int)) : Option (Bool) := (QI (fun (s5 : Int × Int) => ((if (decide (s5.1 < (weights_.length : Int))) = true then (idx weights_ s5.1).bind fun t12 => (QaQ t12 (0:Int) (1048576:Int)).bind fun t15 => (if (!t15) = true then (some (.inr (.inr false))) else (some (.inl ((IntKind.i64.wrap (s5.1 + (1:Int))),(IntKind.i64.wrap (s5.2 + t12)))))) else (some (.inr (.inl s5.2)))) : Option ((Int × Int) ⊕ ((Int) ⊕ (Bool))))) ((0:Int),(0:Int))).bind fun (e6 : (Int) ⊕ (Bool)) => (match e6 with | .inl p25 => (QaQ (words_.length : Int) (1:Int) (12:Int)).bind fun t23 => (opt (((t23 && ((words_.length : Int) == (weights_.length : Int))) && (decide (p25 > (0:Int)))) == true) (Qbt words_ (fun x0 => Q6 x0)) default).bind fun t37 => (some (((t23 && ((words_.length : Int) == (weights_.length : Int))) && (decide (p25 > (0:Int)))) && t37)) | .inr p26 => (some p26))
theorem QmM {words_ : (List Str)} {weights_ : (List Int)} {r : Bool} (h : Qcy words_ weights_ = some r) : FnOk Tryz.prog 158 [tsl rS words_,tsl rI weights_] [] (fun _ => []) (fun _ => tb r) := by
 unfold Qcy at h
 refine fe Tryz.func158 Tryz.ntmps158 fun M0 M w0 a hpl H => ?_
 replace H : St M w0 39 [(0,tsl rS words_),(1,tsl rI weights_)] [] a w0 := H
 refine sr mx [] H (fun _ => .o (Qa .k)<|.n) fun _ a w H => ?_
 have H := H.to [1,2] [_,_] [] rfl rfl
 refine sr mx [] H (fun _ => .o (Qa .k)<|.n) fun _ a w H => ?_
 have H := H.to [0,1,2] [_,_,_] [] rfl rfl
 refine wp_seq_k (fun K3 k3 => ?_)
 refine sr mx [] H (fun _ => .q 2 rfl<|.o (QN ud22 z0)<|.o (Qw .k)<|.n) fun _ a w H => ?_
 have H := H.to [0,1,2,3,4,5] [_,_,_,_,_,_] [] rfl rfl
 have ⟨e6,he6,h⟩ := bs h
 have hJp25 : ∀ (p25 : Int) a w,(.inl p25) = e6 → St M w0 39 [(5,ti p25),(0,tsl rS words_),(1,tsl rI weights_)] [] a w → K3 a w := by
  intro p25 a w he H
  subst he
  simp only at h
  refine k3 _ _ ?_
  have ⟨t23,ht23,h⟩ := bs h
  have ⟨t37,ht37,h⟩ := bs h
  refine sr mx [] H (fun _ => .q 1 rfl<|.o (QN ud32 z0)<|.o (Qh Qhw (Qbw ht23) (.cons (.of z0)<|.cons (.of .k)<|.cons (.of .k)<|.nil))<|.q 0 rfl<|.g rfl rfl bq0 (fun _ => Qw z5)<|.g rfl rfl bq1 (fun hc => QN ud32 (.cond z0 hc))<|.g rfl rfl bq2 (fun _ => Qw z8)<|.g rfl rfl bq3 (fun hc => QN ud22 (.cond z0 hc))<|.g rfl rfl bq4 (fun hc => Q4 (.cond z2 hc) (.cond z0 hc))<|.o (QY z5 (fun hp => (.cond z0 (beqT hp))))<|.q 0 rfl<|.g rfl rfl bq0 (fun _ => Qw z11)<|.g rfl rfl bq1 (fun hc => Qcf (.cond z0 hc) .k)<|.o (QY z2 (fun hp => (.cond z0 (beqT hp))))<|.q 0 rfl<|.g rfl rfl bq0 (fun _ => Qw z16)<|.g rfl rfl bq1 (fun hc => Qh Qq4 (QhA (Q9 ht37 hc)) (.cons (.of (.cond z0 hc))<|.cons (.of (Fct.weak .fnE (Qb1 Qcx (fun _ _ hq => Qag hq))))<|.nil))<|.o (QY z2 (fun hp => (.cond z0 (beqT hp))))<|.o (Qa z0)<|.n) fun _ a w H => ?_
  have H := H.to [18] [_] [] rfl rfl
  refine wp_ret ?_
  obtain rfl := sj h
  exact rt undef [] hpl H (.tmp z0 .nil)
 have hJp26 : ∀ (p26 : Bool) a w,(.inr p26) = e6 → St M w0 39 [(4,tb p26)] [] a w → Ret Tryz.prog Tryz.f158 M0 [] w0 (fun _ => []) (fun _ => tb r) .ret a w := by
  intro p26 a w he H
  subst he
  simp only at h
  obtain rfl := sj h
  exact rt undef [] hpl H (.tmp z0 .nil)
 refine wp_block ?_
 refine QZ _ (fun (s5 : Int × Int) a w => St M w0 39 [(8,tsl rI weights_),(9,ti (weights_.length : Int)),(10,ti s5.1),(5,ti s5.2),(0,tsl rS words_),(1,tsl rI weights_)] [] a w) _ _ he6 (H.pick [0,1,2,3,4,5]) ?_
 clear h
 intro s5 o a w K28 hI h ho k28
 have H := hI
 clear hI
 refine sr mx [] H (fun _ => .o (QU z2 z1)<|.n) fun _ a w H => ?_
 have H := H.to [0,1,2,3,4,5,6] [_,_,_,_,_,_,_] [] rfl rfl
 refine wp_seq_k (fun _ k30 => ?_)
 refine wi H h (fun b37 h => ?_) (fun b37 h => ?_)
 ·refine wp_skip (k30 _ _ ?_)
  refine wp_seq_k (fun _ k31 => ?_)
  refine wp_block ?_
  have ⟨t12,ht12,h⟩ := bs h
  refine sr mx [] H (fun _ => .o (QG ud22 tok3 z1 z3 ht12)<|.o (Qr tok3 z0)<|.o (Qa z0)<|.n) fun _ a w H => ?_
  have H := H.to [2,4,5,6,7,8,9] [_,_,_,_,_,_,_] [] rfl rfl
  refine wp_seq_k (fun _ k33 => ?_)
  have ⟨t15,ht15,h⟩ := bs h
  refine sr mx [] H (fun _ => .q 0 rfl<|.o (Qh Qhw (Qbw ht15) (.cons (.of z0)<|.cons (.of .k)<|.cons (.of .k)<|.nil))<|.o (Qar z0)<|.n) fun _ a w H => ?_
  have H := H.to [2,3,4,5,6,7,8,9] [_,_,_,_,_,_,_,_] [] rfl rfl
  refine wi H h (fun b36 h => ?_) (fun b36 h => ?_)
  ·refine sr mx [] H (fun _ => .o (Qa .k)<|.n) fun _ a w H => ?_
   have H := H.to [0] [_] [] rfl rfl
   refine wp_ret ?_
   exact hJp26 _ _ _ (ho _ (sj h).symm) (H.pick [0])
  refine wp_skip (k33 _ _ ?_)
  refine wr mx [] H (fun _ => .q 5 rfl<|.q 2 rfl<|.o (QV z1 z0)<|.o (Qa z0)<|.n) fun _ a w H => ?_
  have H := H.to [3,6,7,8,9,10] [_,_,_,_,_,_] [] rfl rfl
  refine k31 _ _ ?_
  refine wr mx [] H (fun _ => .o (QV z3 .k)<|.q 0 rfl<|.n) fun _ a w H => ?_
  have H := H.to [1,2,3,4,5,6] [_,_,_,_,_,_] [] rfl rfl
  exact k28 _ _ _ (sj h).symm (H.pick [2,3,0,1,4,5])
 refine wp_exit ?_
 exact hJp25 _ _ _ (ho _ (sj h).symm) (H.pick [4,5,6])

/- diorama/schema.isField -/
noncomputable def QcJ (f_ : Qc) : Option (Bool) := (Q6 (f_).Name).bind fun t5 => (opt ((!t5) == false) (Qd9 f_) default).bind fun t10 => (opt ((!t5) == false) (Qb6 f_ t10) default).bind fun t11 => (if ((!t5) || (!t11)) = true then (some false) else (if ((f_).Kind == (0:Int)) = true then (QaQ (f_).Lo (-1048576:Int) (1048576:Int)).bind fun t20 => (some t20) else (if ((f_).Kind == (1:Int)) = true then (Q6 (f_).Of).bind fun t25 => (opt (t25 == true) (Qch (f_).Lo (f_).Hi (0:Int) (65536:Int)) default).bind fun t31 => (some (t25 && t31)) else (if ((f_).Kind == (2:Int)) = true then (Qch (f_).Lo (f_).Hi (-1048576:Int) (1048576:Int)).bind fun t39 => (some t39) else (if ((f_).Kind == (3:Int)) = true then (Qcy (f_).Words (f_).Weights).bind fun t46 => (some t46) else (if ((f_).Kind == (4:Int)) = true then (opt (((f_).Of == ([] : Str)) == false) (Q6 (f_).Of) default).bind fun t55 => (opt ((((f_).Of == ([] : Str)) || t55) == true) (Qch (f_).Lo (f_).Hi (-1048576:Int) (1048576:Int)) default).bind fun t62 => (some ((((f_).Of == ([] : Str)) || t55) && t62)) else (if ((f_).Kind == (5:Int)) = true then (Q6 (f_).Of).bind fun t68 => (opt (t68 == true) (Qch (f_).Lo (f_).Hi (0:Int) (32:Int)) default).bind fun t74 => (some (t68 && t74)) else (if ((f_).Kind == (6:Int)) = true then (Q6 (f_).Of).bind fun t80 => (some t80) else (if ((f_).Kind == (7:Int)) = true then (Q6 (f_).Of).bind fun t85 => (opt (t85 == true) (Q6 (f_).Up) default).bind fun t89 => (opt ((t85 && t89) == true) (Qch (f_).Lo (f_).Hi (0:Int) (1048576:Int)) default).bind fun t96 => (some ((t85 && t89) && t96)) else (if ((f_).Kind == (8:Int)) = true then (Q6 (f_).Of).bind fun t102 => (opt (t102 == true) (Q6 (f_).Up) default).bind fun t106 => (some (t102 && t106)) else (some false)))))))))))
theorem Qmq {f_ : Qc} {r : Bool} (h : QcJ f_ = some r) : FnOk Tryz.prog 128 [Qd.ty f_] [] (fun _ => []) (fun _ => tb r) := by
 unfold QcJ at h
 refine fe Tryz.func128 Tryz.ntmps128 fun M0 M w0 a hpl H => ?_
 replace H : St M w0 108 [(0,Qd.ty f_)] [] a w0 := H
 refine sr mx [] H (fun _ => .o (QT (R := Qd) (u := f_) z0)<|.o (Qa .k)<|.n) fun _ a w H => ?_
 have H := H.to [0] [_] [] rfl rfl
 refine wp_seq_k (fun _ k2 => ?_)
 have ⟨t5,ht5,h⟩ := bs h
 have ⟨t10,ht10,h⟩ := bs h
 have ⟨t11,ht11,h⟩ := bs h
 refine sr mx [] H (fun _ => .o (Qe Qce z0)<|.o (Qf (u := (f_).Name) tok9 z0 rfl)<|.o (Qh Qcx (Qag ht5) (.cons (.of z0)<|.nil))<|.o (Qar z0)<|.q 0 rfl<|.g rfl rfl bq0 (fun _ => Qr QS z5)<|.g rfl rfl bq1 (fun _ => Qr QS z6)<|.g rfl rfl bq2 (fun hc => Qh Qvr (Qoc (Q9 ht10 hc)) (.cons (.of (.cond z0 hc))<|.nil))<|.g rfl rfl bq3 (fun hc => Qh Qvq (Qld (Q9 ht11 hc)) (.cons (.of (.cond z2 hc))<|.cons (.of (.cond z0 hc))<|.nil))<|.g rfl rfl bq4 (fun hc => Qar (.cond z0 hc))<|.o (Qao z5 (fun hp => (.cond z0 (beqF hp))))<|.n) fun _ a w H => ?_
 have H := H.to [10,11] [_,_] [] rfl rfl
 refine wi H h (fun b35 h => ?_) (fun b35 h => ?_)
 ·refine sr mx [] H (fun _ => .o (Qa .k)<|.n) fun _ a w H => ?_
  have H := H.to [0] [_] [] rfl rfl
  refine wp_ret ?_
  obtain rfl := sj h
  exact rt undef [] hpl H (.tmp z0 .nil)
 refine wp_skip (k2 _ _ ?_)
 refine wp_seq_k (fun _ k5 => ?_)
 refine sr mx [] H (fun _ => .o (Qe QaX z1)<|.o (Qf (u := (f_).Kind) tok3 z0 rfl)<|.n) fun _ a w H => ?_
 have H := H.to [1,3] [_,_] [] rfl rfl
 refine wp_block ?_
 refine sr mx [] H (fun _ => .o (Q4 z0 .k)<|.o (Qa z0)<|.n) fun _ a w H => ?_
 have H := H.to [1,2,3] [_,_,_] [] rfl rfl
 refine wi H h (fun b34 h => ?_) (fun b34 h => ?_)
 ·have ⟨t20,ht20,h⟩ := bs h
  refine sr mx [] H (fun _ => .o (Qe Qbd z2)<|.o (Qf (u := (f_).Lo) tok3 z0 rfl)<|.o (Qh Qhw (Qbw ht20) (.cons (.of z0)<|.cons (.of .k)<|.cons (.of .k)<|.nil))<|.o (Qa z0)<|.n) fun _ a w H => ?_
  have H := H.to [3] [_] [] rfl rfl
  refine wp_ret ?_
  obtain rfl := sj h
  exact rt undef [] hpl H (.tmp z0 .nil)
 refine sr mx [] H (fun _ => .o (Q4 z1 .k)<|.o (Qa z0)<|.n) fun _ a w H => ?_
 have H := H.to [1,3,4] [_,_,_] [] rfl rfl
 refine wi H h (fun b33 h => ?_) (fun b33 h => ?_)
 ·have ⟨t25,ht25,h⟩ := bs h
  have ⟨t31,ht31,h⟩ := bs h
  refine sr mx [] H (fun _ => .o (Qe QaA z2)<|.o (Qf (u := (f_).Of) tok9 z0 rfl)<|.o (Qh Qcx (Qag ht25) (.cons (.of z0)<|.nil))<|.q 0 rfl<|.g rfl rfl bq0 (fun _ => Qe Qbd z6)<|.g rfl rfl bq1 (fun hc => Qf (u := (f_).Lo) tok3 (.cond z0 hc) rfl)<|.g rfl rfl bq2 (fun _ => Qe Qb0 z8)<|.g rfl rfl bq3 (fun hc => Qf (u := (f_).Hi) tok3 (.cond z0 hc) rfl)<|.g rfl rfl bq4 (fun hc => Qh Qjg (QdX (Q9 ht31 hc)) (.cons (.of (.cond z2 hc))<|.cons (.of (.cond z0 hc))<|.cons (.of .k)<|.cons (.of .k)<|.nil))<|.o (QY z5 (fun hp => (.cond z0 (beqT hp))))<|.o (Qa z0)<|.n) fun _ a w H => ?_
  have H := H.to [10] [_] [] rfl rfl
  refine wp_ret ?_
  obtain rfl := sj h
  exact rt undef [] hpl H (.tmp z0 .nil)
 refine sr mx [] H (fun _ => .o (Q4 z1 .k)<|.o (Qa z0)<|.n) fun _ a w H => ?_
 have H := H.to [1,3,4] [_,_,_] [] rfl rfl
 refine wi H h (fun b32 h => ?_) (fun b32 h => ?_)
 ·have ⟨t39,ht39,h⟩ := bs h
  refine sr mx [] H (fun _ => .o (Qe Qbd z2)<|.o (Qf (u := (f_).Lo) tok3 z0 rfl)<|.o (Qe Qb0 z4)<|.o (Qf (u := (f_).Hi) tok3 z0 rfl)<|.o (Qh Qjg (QdX ht39) (.cons (.of z2)<|.cons (.of z0)<|.cons (.of .k)<|.cons (.of .k)<|.nil))<|.o (Qa z0)<|.n) fun _ a w H => ?_
  have H := H.to [5] [_] [] rfl rfl
  refine wp_ret ?_
  obtain rfl := sj h
  exact rt undef [] hpl H (.tmp z0 .nil)
 refine sr mx [] H (fun _ => .o (Q4 z1 .k)<|.o (Qa z0)<|.n) fun _ a w H => ?_
 have H := H.to [1,3,4] [_,_,_] [] rfl rfl
 refine wi H h (fun b31 h => ?_) (fun b31 h => ?_)
 ·have ⟨t46,ht46,h⟩ := bs h
  refine sr mx [] H (fun _ => .o (Qe Qh5 z2)<|.o (Qf (u := (f_).Words) Qgd z0 rfl)<|.o (Qe Qgi z4)<|.o (Qf (u := (f_).Weights) Qgc z0 rfl)<|.o (Qh Qvs (QmM ht46) (.cons (.of z2)<|.cons (.of z0)<|.nil))<|.o (Qa z0)<|.n) fun _ a w H => ?_
  have H := H.to [5] [_] [] rfl rfl
  refine wp_ret ?_
  obtain rfl := sj h
  exact rt undef [] hpl H (.tmp z0 .nil)
 refine sr mx [] H (fun _ => .o (Q4 z1 .k)<|.o (Qa z0)<|.n) fun _ a w H => ?_
 have H := H.to [1,3,4] [_,_,_] [] rfl rfl
 refine wi H h (fun b30 h => ?_) (fun b30 h => ?_)
 ·have ⟨t55,ht55,h⟩ := bs h
  have ⟨t62,ht62,h⟩ := bs h
  refine sr mx [] H (fun _ => .o (Qe QaA z2)<|.o (Qf (u := (f_).Of) tok9 z0 rfl)<|.o (QcX z0 .k)<|.q 0 rfl<|.g rfl rfl bq0 (fun _ => Qe QaA z6)<|.g rfl rfl bq1 (fun hc => Qf (u := (f_).Of) tok9 (.cond z0 hc) rfl)<|.g rfl rfl bq2 (fun hc => Qh Qcx (Qag (Q9 ht55 hc)) (.cons (.of (.cond z0 hc))<|.nil))<|.o (Qao z3 (fun hp => (.cond z0 (beqF hp))))<|.q 0 rfl<|.g rfl rfl bq0 (fun _ => Qe Qbd z11)<|.g rfl rfl bq1 (fun hc => Qf (u := (f_).Lo) tok3 (.cond z0 hc) rfl)<|.g rfl rfl bq2 (fun _ => Qe Qb0 z13)<|.g rfl rfl bq3 (fun hc => Qf (u := (f_).Hi) tok3 (.cond z0 hc) rfl)<|.g rfl rfl bq4 (fun hc => Qh Qjg (QdX (Q9 ht62 hc)) (.cons (.of (.cond z2 hc))<|.cons (.of (.cond z0 hc))<|.cons (.of .k)<|.cons (.of .k)<|.nil))<|.o (QY z5 (fun hp => (.cond z0 (beqT hp))))<|.o (Qa z0)<|.n) fun _ a w H => ?_
  have H := H.to [15] [_] [] rfl rfl
  refine wp_ret ?_
  obtain rfl := sj h
  exact rt undef [] hpl H (.tmp z0 .nil)
 refine sr mx [] H (fun _ => .o (Q4 z1 .k)<|.o (Qa z0)<|.n) fun _ a w H => ?_
 have H := H.to [1,3,4] [_,_,_] [] rfl rfl
 refine wi H h (fun b29 h => ?_) (fun b29 h => ?_)
 ·have ⟨t68,ht68,h⟩ := bs h
  have ⟨t74,ht74,h⟩ := bs h
  refine sr mx [] H (fun _ => .o (Qe QaA z2)<|.o (Qf (u := (f_).Of) tok9 z0 rfl)<|.o (Qh Qcx (Qag ht68) (.cons (.of z0)<|.nil))<|.q 0 rfl<|.g rfl rfl bq0 (fun _ => Qe Qbd z6)<|.g rfl rfl bq1 (fun hc => Qf (u := (f_).Lo) tok3 (.cond z0 hc) rfl)<|.g rfl rfl bq2 (fun _ => Qe Qb0 z8)<|.g rfl rfl bq3 (fun hc => Qf (u := (f_).Hi) tok3 (.cond z0 hc) rfl)<|.g rfl rfl bq4 (fun hc => Qh Qjg (QdX (Q9 ht74 hc)) (.cons (.of (.cond z2 hc))<|.cons (.of (.cond z0 hc))<|.cons (.of .k)<|.cons (.of .k)<|.nil))<|.o (QY z5 (fun hp => (.cond z0 (beqT hp))))<|.o (Qa z0)<|.n) fun _ a w H => ?_
  have H := H.to [10] [_] [] rfl rfl
  refine wp_ret ?_
  obtain rfl := sj h
  exact rt undef [] hpl H (.tmp z0 .nil)
 refine sr mx [] H (fun _ => .o (Q4 z1 .k)<|.o (Qa z0)<|.n) fun _ a w H => ?_
 have H := H.to [1,3,4] [_,_,_] [] rfl rfl
 refine wi H h (fun b28 h => ?_) (fun b28 h => ?_)
 ·have ⟨t80,ht80,h⟩ := bs h
  refine sr mx [] H (fun _ => .o (Qe QaA z2)<|.o (Qf (u := (f_).Of) tok9 z0 rfl)<|.o (Qh Qcx (Qag ht80) (.cons (.of z0)<|.nil))<|.o (Qa z0)<|.n) fun _ a w H => ?_
  have H := H.to [3] [_] [] rfl rfl
  refine wp_ret ?_
  obtain rfl := sj h
  exact rt undef [] hpl H (.tmp z0 .nil)
 refine sr mx [] H (fun _ => .o (Q4 z1 .k)<|.o (Qa z0)<|.n) fun _ a w H => ?_
 have H := H.to [1,3,4] [_,_,_] [] rfl rfl
 refine wi H h (fun b27 h => ?_) (fun b27 h => ?_)
 ·have ⟨t85,ht85,h⟩ := bs h
  have ⟨t89,ht89,h⟩ := bs h
  have ⟨t96,ht96,h⟩ := bs h
  refine sr mx [] H (fun _ => .o (Qe QaA z2)<|.o (Qf (u := (f_).Of) tok9 z0 rfl)<|.o (Qh Qcx (Qag ht85) (.cons (.of z0)<|.nil))<|.q 0 rfl<|.g rfl rfl bq0 (fun _ => Qe QeU z6)<|.g rfl rfl bq1 (fun hc => Qf (u := (f_).Up) tok9 (.cond z0 hc) rfl)<|.g rfl rfl bq2 (fun hc => Qh Qcx (Qag (Q9 ht89 hc)) (.cons (.of (.cond z0 hc))<|.nil))<|.o (QY z3 (fun hp => (.cond z0 (beqT hp))))<|.q 0 rfl<|.g rfl rfl bq0 (fun _ => Qe Qbd z11)<|.g rfl rfl bq1 (fun hc => Qf (u := (f_).Lo) tok3 (.cond z0 hc) rfl)<|.g rfl rfl bq2 (fun _ => Qe Qb0 z13)<|.g rfl rfl bq3 (fun hc => Qf (u := (f_).Hi) tok3 (.cond z0 hc) rfl)<|.g rfl rfl bq4 (fun hc => Qh Qjg (QdX (Q9 ht96 hc)) (.cons (.of (.cond z2 hc))<|.cons (.of (.cond z0 hc))<|.cons (.of .k)<|.cons (.of .k)<|.nil))<|.o (QY z5 (fun hp => (.cond z0 (beqT hp))))<|.o (Qa z0)<|.n) fun _ a w H => ?_
  have H := H.to [15] [_] [] rfl rfl
  refine wp_ret ?_
  obtain rfl := sj h
  exact rt undef [] hpl H (.tmp z0 .nil)
 refine sr mx [] H (fun _ => .o (Q4 z1 .k)<|.o (Qa z0)<|.n) fun _ a w H => ?_
 have H := H.to [1,4] [_,_] [] rfl rfl
 refine wi H h (fun b26 h => ?_) (fun b26 h => ?_)
 ·have ⟨t102,ht102,h⟩ := bs h
  have ⟨t106,ht106,h⟩ := bs h
  refine sr mx [] H (fun _ => .o (Qe QaA z1)<|.o (Qf (u := (f_).Of) tok9 z0 rfl)<|.o (Qh Qcx (Qag ht102) (.cons (.of z0)<|.nil))<|.q 0 rfl<|.g rfl rfl bq0 (fun _ => Qe QeU z5)<|.g rfl rfl bq1 (fun hc => Qf (u := (f_).Up) tok9 (.cond z0 hc) rfl)<|.g rfl rfl bq2 (fun hc => Qh Qcx (Qag (Q9 ht106 hc)) (.cons (.of (.cond z0 hc))<|.nil))<|.o (QY z3 (fun hp => (.cond z0 (beqT hp))))<|.o (Qa z0)<|.n) fun _ a w H => ?_
  have H := H.to [8] [_] [] rfl rfl
  refine wp_ret ?_
  obtain rfl := sj h
  exact rt undef [] hpl H (.tmp z0 .nil)
 refine wp_skip (k5 _ _ ?_)
 refine sr mx [] H (fun _ => .o (Qa .k)<|.n) fun _ a w H => ?_
 have H := H.to [0] [_] [] rfl rfl
 refine wp_ret ?_
 obtain rfl := sj h
 exact rt undef [] hpl H (.tmp z0 .nil)

/- diorama/schema.isKind -/
noncomputable def QcZ (k_ : Qi) : Option (Bool) := (Q6 (k_).Name).bind fun t5 => (opt (t5 == true) (Qch (k_).Lo (k_).Hi (0:Int) (65536:Int)) default).bind fun t11 => (opt (((t5 && t11) && (decide (((k_).Fields.length : Int) ≤ (10:Int)))) == true) (Qb4 (k_).Fields (fun x0 => QcJ x0)) default).bind fun t22 => (some (((t5 && t11) && (decide (((k_).Fields.length : Int) ≤ (10:Int)))) && t22))
theorem QmN {k_ : Qi} {r : Bool} (h : QcZ k_ = some r) : FnOk Tryz.prog 99 [Qk.ty k_] [] (fun _ => []) (fun _ => tb r) := by
 unfold QcZ at h
 refine fe Tryz.func99 Tryz.ntmps99 fun M0 M w0 a hpl H => ?_
 replace H : St M w0 24 [(0,Qk.ty k_)] [] a w0 := H
 refine sr mx [] H (fun _ => .o (QT (R := Qk) (u := k_) z0)<|.o (Qa .k)<|.n) fun _ a w H => ?_
 have H := H.to [0] [_] [] rfl rfl
 have ⟨t5,ht5,h⟩ := bs h
 have ⟨t11,ht11,h⟩ := bs h
 have ⟨t22,ht22,h⟩ := bs h
 refine sr mx [] H (fun _ => .o (Qe QcY z0)<|.o (Qf (u := (k_).Name) tok9 z0 rfl)<|.o (Qh Qcx (Qag ht5) (.cons (.of z0)<|.nil))<|.q 0 rfl<|.g rfl rfl bq0 (fun _ => Qe Qjd z4)<|.g rfl rfl bq1 (fun hc => Qf (u := (k_).Lo) tok3 (.cond z0 hc) rfl)<|.g rfl rfl bq2 (fun _ => Qe Qka z6)<|.g rfl rfl bq3 (fun hc => Qf (u := (k_).Hi) tok3 (.cond z0 hc) rfl)<|.g rfl rfl bq4 (fun hc => Qh Qjg (QdX (Q9 ht11 hc)) (.cons (.of (.cond z2 hc))<|.cons (.of (.cond z0 hc))<|.cons (.of .k)<|.cons (.of .k)<|.nil))<|.o (QY z5 (fun hp => (.cond z0 (beqT hp))))<|.q 0 rfl<|.g rfl rfl bq0 (fun _ => Qe Qap z11)<|.g rfl rfl bq1 (fun hc => Qf (u := (k_).Fields) Qc8 (.cond z0 hc) rfl)<|.g rfl rfl bq2 (fun hc => QN ud53 (.cond z0 hc))<|.g rfl rfl bq3 (fun hc => Qd5 (.cond z0 hc) .k)<|.o (QY z4 (fun hp => (.cond z0 (beqT hp))))<|.q 0 rfl<|.g rfl rfl bq0 (fun _ => Qe Qap z17)<|.g rfl rfl bq1 (fun hc => Qf (u := (k_).Fields) Qc8 (.cond z0 hc) rfl)<|.g rfl rfl bq2 (fun hc => Qh Qvd (Qlb (Q9 ht22 hc)) (.cons (.of (.cond z0 hc))<|.cons (.of (Fct.weak .fnE (Qb1 Qve (fun _ _ hq => Qmq hq))))<|.nil))<|.o (QY z3 (fun hp => (.cond z0 (beqT hp))))<|.o (Qa z0)<|.n) fun _ a w H => ?_
 have H := H.to [21] [_] [] rfl rfl
 refine wp_ret ?_
 obtain rfl := sj h
 exact rt undef [] hpl H (.tmp z0 .nil)

/- diorama/schema.all[diorama/api.Life]$1 -/
noncomputable def Qdf (x_ : Qu) (c0_ : (Qu → Option Bool)) : Option (Bool) := (c0_ x_).bind fun t6 => (some (!t6))
theorem QkS {x_ : Qu} {c0_ : (Qu → Option Bool)} {r : Bool} (h : Qdf x_ c0_ = some r) : FnOk Tryz.prog 129 [QJ.ty x_,tptr (Qhp.cs c0_)] [] (fun _ => []) (fun _ => tb r) := by
 unfold Qdf at h
 refine fe Tryz.func129 Tryz.ntmps129 fun M0 M w0 a hpl H => ?_
 replace H : St M w0 8 [(0,QJ.ty x_),(1,tptr (Qhp.cs c0_))] [] a w0 := H
 refine sr mx [] H (fun _ => .o (QT (R := QJ) (u := x_) z0)<|.o (Qa .k)<|.n) fun _ a w H => ?_
 have H := H.to [0,3] [_,_] [] rfl rfl
 have ⟨t6,ht6,h⟩ := bs h
 refine sr mx [] H (fun _ => .o (Qr tok122 z1)<|.o (Qr Qex z1)<|.o (Qb2 (u := x_) z1 (.cons (.of z0)<|.nil) ht6)<|.o (Qar z0)<|.o (Qa z0)<|.n) fun _ a w H => ?_
 have H := H.to [4] [_] [] rfl rfl
 refine wp_ret ?_
 obtain rfl := sj h
 exact rt undef [] hpl H (.tmp z0 .nil)

/- slices.IndexFunc[[]diorama/api.Life,diorama/api.Life] -/
noncomputable def Qbb (s_ : (List Qu)) (f_ : (Qu → Option Bool)) : Option (Int) := (QI (fun (s4 : Int) => ((if (decide (s4 < (s_.length : Int))) = true then (idx s_ s4).bind fun t14 => (f_ t14).bind fun t16 => (if t16 = true then (some (.inr (.inr s4))) else (some (.inl (IntKind.i64.wrap (s4 + (1:Int)))))) else (some (.inr (.inl ())))) : Option ((Int) ⊕ ((Unit) ⊕ (Int))))) (0:Int)).bind fun (e5 : (Unit) ⊕ (Int)) => (match e5 with | .inl _ => (some (-1:Int)) | .inr p23 => (some p23))
theorem Qjo {s_ : (List Qu)} {f_ : (Qu → Option Bool)} {r : Int} (h : Qbb s_ f_ = some r) : FnOk Tryz.prog 105 [tsl QJ s_,Qhp.ty f_] [] (fun _ => []) (fun _ => ti r) := by
 unfold Qbb at h
 refine fe Tryz.func105 Tryz.ntmps105 fun M0 M w0 a hpl H => ?_
 replace H : St M w0 19 [(0,tsl QJ s_),(1,Qhp.ty f_)] [] a w0 := H
 refine sr mx [] H (fun _ => .o (Qa .k)<|.n) fun _ a w H => ?_
 have H := H.to [1,2] [_,_] [] rfl rfl
 refine wp_seq_k (fun K2 k2 => ?_)
 refine sr mx [] H (fun _ => .q 0 rfl<|.o (QN ud24 z0)<|.o (Qw .k)<|.n) fun _ a w H => ?_
 have H := H.to [1,2,3,4] [_,_,_,_] [] rfl rfl
 have ⟨e5,he5,h⟩ := bs h
 have hJp22 : ∀ (p22 : Unit) a w,(.inl p22) = e5 → St M w0 19 [] [] a w → K2 a w := by
  intro p22 a w he H
  subst he
  simp only at h
  refine k2 _ _ ?_
  refine sr mx [] H (fun _ => .o (Qa .k)<|.n) fun _ a w H => ?_
  have H := H.to [0] [_] [] rfl rfl
  refine wp_ret ?_
  obtain rfl := sj h
  exact rt undef [] hpl H (.tmp z0 .nil)
 have hJp23 : ∀ (p23 : Int) a w,(.inr p23) = e5 → St M w0 19 [(4,ti p23)] [] a w → Ret Tryz.prog Tryz.f105 M0 [] w0 (fun _ => []) (fun _ => ti r) .ret a w := by
  intro p23 a w he H
  subst he
  simp only at h
  obtain rfl := sj h
  exact rt undef [] hpl H (.tmp z0 .nil)
 refine wp_block ?_
 refine QZ _ (fun (s4 : Int) a w => St M w0 19 [(7,ti (s_.length : Int)),(8,ti s4),(0,tsl QJ s_),(1,Qhp.ty f_)] [] a w) _ _ he5 (H.pick [0,1,2,3]) ?_
 clear h
 intro s4 o a w K25 hI h ho k25
 have H := hI
 clear hI
 refine sr mx [] H (fun _ => .o (QU z1 z0)<|.n) fun _ a w H => ?_
 have H := H.to [0,1,2,3,4] [_,_,_,_,_] [] rfl rfl
 refine wp_seq_k (fun _ k27 => ?_)
 refine wi H h (fun b33 h => ?_) (fun b33 h => ?_)
 ·refine wp_skip (k27 _ _ ?_)
  refine wp_seq_k (fun _ k28 => ?_)
  refine wp_block ?_
  refine sr mx [] H (fun _ => .q 2 rfl<|.o (Qa z0)<|.n) fun _ a w H => ?_
  have H := H.to [1,3,4,5,6] [_,_,_,_,_] [] rfl rfl
  have ⟨t14,ht14,h⟩ := bs h
  have ⟨t16,ht16,h⟩ := bs h
  refine sr mx [] H (fun _ => .q 4 rfl<|.q 4 rfl<|.q 2 rfl<|.o (QG ud24 Qex z1 z0 ht14)<|.o (Qr Qex z0)<|.o (Qb2 (u := t14) z4 (.cons (.of z0)<|.nil) ht16)<|.n) fun _ a w H => ?_
  have H := H.to [5,6,7,8,9,10] [_,_,_,_,_,_] [] rfl rfl
  refine wi H h (fun b32 h => ?_) (fun b32 h => ?_)
  ·refine sr mx [] H (fun _ => .q 1 rfl<|.o (Qa z0)<|.n) fun _ a w H => ?_
   have H := H.to [1] [_] [] rfl rfl
   refine wp_ret ?_
   exact hJp23 _ _ _ (ho _ (sj h).symm) (H.pick [0])
  refine wp_skip (k28 _ _ ?_)
  refine wr mx [] H (fun _ => .o (QV z3 .k)<|.q 0 rfl<|.n) fun _ a w H => ?_
  have H := H.to [1,4,5,6] [_,_,_,_] [] rfl rfl
  exact k25 _ _ _ (sj h).symm (H.pick [1,0,2,3])
 refine wp_exit ?_
 exact hJp22 _ _ _ (ho _ (sj h).symm) (H.pick [])

/- slices.ContainsFunc[[]diorama/api.Life,diorama/api.Life] -/
noncomputable def Qaq (s_ : (List Qu)) (f_ : (Qu → Option Bool)) : Option (Bool) := (Qbb s_ f_).bind fun t7 => (some (decide (t7 ≥ (0:Int))))
theorem Qdg {s_ : (List Qu)} {f_ : (Qu → Option Bool)} {r : Bool} (h : Qaq s_ f_ = some r) : FnOk Tryz.prog 64 [tsl QJ s_,Qhp.ty f_] [] (fun _ => []) (fun _ => tb r) := by
 unfold Qaq at h
 refine fe Tryz.func64 Tryz.ntmps64 fun M0 M w0 a hpl H => ?_
 replace H : St M w0 9 [(0,tsl QJ s_),(1,Qhp.ty f_)] [] a w0 := H
 refine sr mx [] H (fun _ => .o (Qa .k)<|.n) fun _ a w H => ?_
 have H := H.to [1,2] [_,_] [] rfl rfl
 have ⟨t7,ht7,h⟩ := bs h
 refine sr mx [] H (fun _ => .q 0 rfl<|.q 2 rfl<|.o (Qh Qu5 (Qjo ht7) (.cons (.of z1)<|.cons (.of z0)<|.nil))<|.o (QaY z0 .k)<|.o (Qa z0)<|.n) fun _ a w H => ?_
 have H := H.to [4] [_] [] rfl rfl
 refine wp_ret ?_
 obtain rfl := sj h
 exact rt undef [] hpl H (.tmp z0 .nil)

/- diorama/schema.all[diorama/api.Life] -/
noncomputable def Qcr (l_ : (List Qu)) (right_ : (Qu → Option Bool)) : Option (Bool) := (Qaq l_ (fun x0 => Qdf x0 right_)).bind fun t7 => (some (!t7))
theorem Qlw {l_ : (List Qu)} {right_ : (Qu → Option Bool)} {r : Bool} (h : Qcr l_ right_ = some r) : FnOk Tryz.prog 100 [tsl QJ l_,Qhp.ty right_] [] (fun _ => []) (fun _ => tb r) := by
 unfold Qcr at h
 refine fe Tryz.func100 Tryz.ntmps100 fun M0 M w0 a hpl H => ?_
 replace H : St M w0 9 [(0,tsl QJ l_),(1,Qhp.ty right_)] [] a w0 := H
 refine sr mx [] H (fun _ => .o (QT (R := Qhp) (u := right_) z1)<|.o (Qa .k)<|.n) fun _ a w H => ?_
 have H := H.to [0,2] [_,_] [] rfl rfl
 have ⟨t7,ht7,h⟩ := bs h
 refine sr mx [] H (fun _ => .q 1 rfl<|.o (QdK (.cons z1<|.nil))<|.o (Qh Qp3 (Qdg ht7) (.cons (.of z1)<|.cons (.of (Fct.weak z0 (Qb1 Qvf (fun _ _ hq => QkS hq))))<|.nil))<|.o (Qar z0)<|.o (Qa z0)<|.n) fun _ a w H => ?_
 have H := H.to [4] [_] [] rfl rfl
 refine wp_ret ?_
 obtain rfl := sj h
 exact rt undef [] hpl H (.tmp z0 .nil)

/- diorama/schema.isLife$1 -/
noncomputable def Qcs (m_ : QK) (c0_ : Int) : Option (Bool) := (QaQ (m_).a0 (0:Int) (IntKind.i64.wrap (c0_ - (1:Int)))).bind fun t8 => (opt (t8 == true) (QaQ (m_).a1 (0:Int) (IntKind.i64.wrap (c0_ - (1:Int)))) default).bind fun t14 => (some (t8 && t14))
theorem Qlx {m_ : QK} {c0_ : Int} {r : Bool} (h : Qcs m_ c0_ = some r) : FnOk Tryz.prog 132 [Q8.ty m_,tptr (rI.cs c0_)] [] (fun _ => []) (fun _ => tb r) := by
 unfold Qcs at h
 refine fe Tryz.func132 Tryz.ntmps132 fun M0 M w0 a hpl H => ?_
 replace H : St M w0 16 [(0,Q8.ty m_),(1,tptr (rI.cs c0_))] [] a w0 := H
 refine sr mx [] H (fun _ => .o (QT (R := Q8) (u := m_) z0)<|.o (Qa .k)<|.n) fun _ a w H => ?_
 have H := H.to [0,3] [_,_] [] rfl rfl
 have ⟨t8,ht8,h⟩ := bs h
 have ⟨t14,ht14,h⟩ := bs h
 refine sr mx [] H (fun _ => .o (Ql2 0 rfl ud82 tok3 z0 .k (by decide))<|.o (Qf (u := (m_).a0) tok3 z0 rfl)<|.o (Qr tok3 z3)<|.o (Qdc z0 .k)<|.o (Qh Qhw (Qbw ht8) (.cons (.of z2)<|.cons (.of .k)<|.cons (.of z0)<|.nil))<|.q 0 rfl<|.g rfl rfl bq0 (fun _ => Ql2 1 rfl ud82 tok3 z6 .k (by decide))<|.g rfl rfl bq1 (fun hc => Qf (u := (m_).a1) tok3 (.cond z0 hc) rfl)<|.g rfl rfl bq2 (fun _ => Qr tok3 z9)<|.g rfl rfl bq3 (fun hc => Qdc (.cond z0 hc) .k)<|.g rfl rfl bq4 (fun hc => Qh Qhw (Qbw (Q9 ht14 hc)) (.cons (.of (.cond z2 hc))<|.cons (.of .k)<|.cons (.of (.cond z0 hc))<|.nil))<|.o (QY z5 (fun hp => (.cond z0 (beqT hp))))<|.o (Qa z0)<|.n) fun _ a w H => ?_
 have H := H.to [12] [_] [] rfl rfl
 refine wp_ret ?_
 obtain rfl := sj h
 exact rt undef [] hpl H (.tmp z0 .nil)

/- diorama/schema.all[[2]int]$1 -/
noncomputable def QcK (x_ : QK) (c0_ : (QK → Option Bool)) : Option (Bool) := (c0_ x_).bind fun t6 => (some (!t6))
theorem QjY {x_ : QK} {c0_ : (QK → Option Bool)} {r : Bool} (h : QcK x_ c0_ = some r) : FnOk Tryz.prog 162 [Q8.ty x_,tptr (Qhu.cs c0_)] [] (fun _ => []) (fun _ => tb r) := by
 unfold QcK at h
 refine fe Tryz.func162 Tryz.ntmps162 fun M0 M w0 a hpl H => ?_
 replace H : St M w0 8 [(0,Q8.ty x_),(1,tptr (Qhu.cs c0_))] [] a w0 := H
 refine sr mx [] H (fun _ => .o (QT (R := Q8) (u := x_) z0)<|.o (Qa .k)<|.n) fun _ a w H => ?_
 have H := H.to [0,3] [_,_] [] rfl rfl
 have ⟨t6,ht6,h⟩ := bs h
 refine sr mx [] H (fun _ => .o (Qr tok183 z1)<|.o (Qr Qge z1)<|.o (Qb2 (u := x_) z1 (.cons (.of z0)<|.nil) ht6)<|.o (Qar z0)<|.o (Qa z0)<|.n) fun _ a w H => ?_
 have H := H.to [4] [_] [] rfl rfl
 refine wp_ret ?_
 obtain rfl := sj h
 exact rt undef [] hpl H (.tmp z0 .nil)

/- slices.IndexFunc[[][2]int,[2]int] -/
noncomputable def QaT (s_ : (List QK)) (f_ : (QK → Option Bool)) : Option (Int) := (QI (fun (s4 : Int) => ((if (decide (s4 < (s_.length : Int))) = true then (idx s_ s4).bind fun t14 => (f_ t14).bind fun t16 => (if t16 = true then (some (.inr (.inr s4))) else (some (.inl (IntKind.i64.wrap (s4 + (1:Int)))))) else (some (.inr (.inl ())))) : Option ((Int) ⊕ ((Unit) ⊕ (Int))))) (0:Int)).bind fun (e5 : (Unit) ⊕ (Int)) => (match e5 with | .inl _ => (some (-1:Int)) | .inr p23 => (some p23))
theorem QiM {s_ : (List QK)} {f_ : (QK → Option Bool)} {r : Int} (h : QaT s_ f_ = some r) : FnOk Tryz.prog 177 [tsl Q8 s_,Qhu.ty f_] [] (fun _ => []) (fun _ => ti r) := by
 unfold QaT at h
 refine fe Tryz.func177 Tryz.ntmps177 fun M0 M w0 a hpl H => ?_
 replace H : St M w0 19 [(0,tsl Q8 s_),(1,Qhu.ty f_)] [] a w0 := H
 refine sr mx [] H (fun _ => .o (Qa .k)<|.n) fun _ a w H => ?_
 have H := H.to [1,2] [_,_] [] rfl rfl
 refine wp_seq_k (fun K2 k2 => ?_)
 refine sr mx [] H (fun _ => .q 0 rfl<|.o (QN ud79 z0)<|.o (Qw .k)<|.n) fun _ a w H => ?_
 have H := H.to [1,2,3,4] [_,_,_,_] [] rfl rfl
 have ⟨e5,he5,h⟩ := bs h
 have hJp22 : ∀ (p22 : Unit) a w,(.inl p22) = e5 → St M w0 19 [] [] a w → K2 a w := by
  intro p22 a w he H
  subst he
  simp only at h
  refine k2 _ _ ?_
  refine sr mx [] H (fun _ => .o (Qa .k)<|.n) fun _ a w H => ?_
  have H := H.to [0] [_] [] rfl rfl
  refine wp_ret ?_
  obtain rfl := sj h
  exact rt undef [] hpl H (.tmp z0 .nil)
 have hJp23 : ∀ (p23 : Int) a w,(.inr p23) = e5 → St M w0 19 [(4,ti p23)] [] a w → Ret Tryz.prog Tryz.f177 M0 [] w0 (fun _ => []) (fun _ => ti r) .ret a w := by
  intro p23 a w he H
  subst he
  simp only at h
  obtain rfl := sj h
  exact rt undef [] hpl H (.tmp z0 .nil)
 refine wp_block ?_
 refine QZ _ (fun (s4 : Int) a w => St M w0 19 [(7,ti (s_.length : Int)),(8,ti s4),(0,tsl Q8 s_),(1,Qhu.ty f_)] [] a w) _ _ he5 (H.pick [0,1,2,3]) ?_
 clear h
 intro s4 o a w K25 hI h ho k25
 have H := hI
 clear hI
 refine sr mx [] H (fun _ => .o (QU z1 z0)<|.n) fun _ a w H => ?_
 have H := H.to [0,1,2,3,4] [_,_,_,_,_] [] rfl rfl
 refine wp_seq_k (fun _ k27 => ?_)
 refine wi H h (fun b33 h => ?_) (fun b33 h => ?_)
 ·refine wp_skip (k27 _ _ ?_)
  refine wp_seq_k (fun _ k28 => ?_)
  refine wp_block ?_
  refine sr mx [] H (fun _ => .q 2 rfl<|.o (Qa z0)<|.n) fun _ a w H => ?_
  have H := H.to [1,3,4,5,6] [_,_,_,_,_] [] rfl rfl
  have ⟨t14,ht14,h⟩ := bs h
  have ⟨t16,ht16,h⟩ := bs h
  refine sr mx [] H (fun _ => .q 4 rfl<|.q 4 rfl<|.q 2 rfl<|.o (QG ud79 Qge z1 z0 ht14)<|.o (Qr Qge z0)<|.o (Qb2 (u := t14) z4 (.cons (.of z0)<|.nil) ht16)<|.n) fun _ a w H => ?_
  have H := H.to [5,6,7,8,9,10] [_,_,_,_,_,_] [] rfl rfl
  refine wi H h (fun b32 h => ?_) (fun b32 h => ?_)
  ·refine sr mx [] H (fun _ => .q 1 rfl<|.o (Qa z0)<|.n) fun _ a w H => ?_
   have H := H.to [1] [_] [] rfl rfl
   refine wp_ret ?_
   exact hJp23 _ _ _ (ho _ (sj h).symm) (H.pick [0])
  refine wp_skip (k28 _ _ ?_)
  refine wr mx [] H (fun _ => .o (QV z3 .k)<|.q 0 rfl<|.n) fun _ a w H => ?_
  have H := H.to [1,4,5,6] [_,_,_,_] [] rfl rfl
  exact k25 _ _ _ (sj h).symm (H.pick [1,0,2,3])
 refine wp_exit ?_
 exact hJp22 _ _ _ (ho _ (sj h).symm) (H.pick [])

/- slices.ContainsFunc[[][2]int,[2]int] -/
noncomputable def QaC (s_ : (List QK)) (f_ : (QK → Option Bool)) : Option (Bool) := (QaT s_ f_).bind fun t7 => (some (decide (t7 ≥ (0:Int))))
theorem QhZ {s_ : (List QK)} {f_ : (QK → Option Bool)} {r : Bool} (h : QaC s_ f_ = some r) : FnOk Tryz.prog 161 [tsl Q8 s_,Qhu.ty f_] [] (fun _ => []) (fun _ => tb r) := by
 unfold QaC at h
 refine fe Tryz.func161 Tryz.ntmps161 fun M0 M w0 a hpl H => ?_
 replace H : St M w0 9 [(0,tsl Q8 s_),(1,Qhu.ty f_)] [] a w0 := H
 refine sr mx [] H (fun _ => .o (Qa .k)<|.n) fun _ a w H => ?_
 have H := H.to [1,2] [_,_] [] rfl rfl
 have ⟨t7,ht7,h⟩ := bs h
 refine sr mx [] H (fun _ => .q 0 rfl<|.q 2 rfl<|.o (Qh QvC (QiM ht7) (.cons (.of z1)<|.cons (.of z0)<|.nil))<|.o (QaY z0 .k)<|.o (Qa z0)<|.n) fun _ a w H => ?_
 have H := H.to [4] [_] [] rfl rfl
 refine wp_ret ?_
 obtain rfl := sj h
 exact rt undef [] hpl H (.tmp z0 .nil)

/- diorama/schema.all[[2]int] -/
noncomputable def QbO (l_ : (List QK)) (right_ : (QK → Option Bool)) : Option (Bool) := (QaC l_ (fun x0 => QcK x0 right_)).bind fun t7 => (some (!t7))
theorem QkT {l_ : (List QK)} {right_ : (QK → Option Bool)} {r : Bool} (h : QbO l_ right_ = some r) : FnOk Tryz.prog 131 [tsl Q8 l_,Qhu.ty right_] [] (fun _ => []) (fun _ => tb r) := by
 unfold QbO at h
 refine fe Tryz.func131 Tryz.ntmps131 fun M0 M w0 a hpl H => ?_
 replace H : St M w0 9 [(0,tsl Q8 l_),(1,Qhu.ty right_)] [] a w0 := H
 refine sr mx [] H (fun _ => .o (QT (R := Qhu) (u := right_) z1)<|.o (Qa .k)<|.n) fun _ a w H => ?_
 have H := H.to [0,2] [_,_] [] rfl rfl
 have ⟨t7,ht7,h⟩ := bs h
 refine sr mx [] H (fun _ => .q 1 rfl<|.o (QdK (.cons z1<|.nil))<|.o (Qh Qvv (QhZ ht7) (.cons (.of z1)<|.cons (.of (Fct.weak z0 (Qb1 Qvw (fun _ _ hq => QjY hq))))<|.nil))<|.o (Qar z0)<|.o (Qa z0)<|.n) fun _ a w H => ?_
 have H := H.to [4] [_] [] rfl rfl
 refine wp_ret ?_
 obtain rfl := sj h
 exact rt undef [] hpl H (.tmp z0 .nil)

/- diorama/schema.isLife -/
noncomputable def Qc0 (x_ : Qu) : Option (Bool) := (Q6 (x_).Name).bind fun t9 => (opt (t9 == true) (QaQ ((x_).States.length : Int) (1:Int) (12:Int)) default).bind fun t12 => (opt ((t9 && t12) == true) (Qbt (x_).States (fun x0 => Q6 x0)) default).bind fun t17 => (opt ((((t9 && t12) && t17) && (decide (((x_).Moves.length : Int) ≤ (32:Int)))) == true) (QbO (x_).Moves (fun x0 => Qcs x0 ((x_).States.length : Int))) default).bind fun t29 => (some ((((t9 && t12) && t17) && (decide (((x_).Moves.length : Int) ≤ (32:Int)))) && t29))
theorem QmO {x_ : Qu} {r : Bool} (h : Qc0 x_ = some r) : FnOk Tryz.prog 101 [QJ.ty x_] [] (fun _ => []) (fun _ => tb r) := by
 unfold Qc0 at h
 refine fe Tryz.func101 Tryz.ntmps101 fun M0 M w0 a hpl H => ?_
 replace H : St M w0 31 [(0,QJ.ty x_)] [] a w0 := H
 refine sr mx [] H (fun _ => .o (QT (R := QJ) (u := x_) z0)<|.o (Qa .k)<|.n) fun _ a w H => ?_
 have H := H.to [0] [_] [] rfl rfl
 refine sr mx [v1 3 (fun v0 => box (rI.cs (0:Int)) v0),v1 3 (fun v0 => box (rI.cs ((x_).States.length : Int)) v0)] H (fun _ => .o (Qe Ql8 z0)<|.o (Qf (u := (x_).States) Qgd z0 rfl)<|.o (QN ud32 z0)<|.m [] [0] rfl rfl rfl (Q1 (R := rI) (a := (0:Int)) tok3 zok3)<|.e [] [0] [1] rfl rfl rfl rfl (QR (R := rI) (a := ((x_).States.length : Int)) tok3 z0 z1 (leb rfl))<|.n) fun _ a w H => ?_
 replace H : St _ _ _ [_,_] [] _ _ := (((H.pick [3,4]).shareB 0 rfl).add 0 rfl (fun _ _ _ h => h.2)).pick [0,3]
 have ⟨t9,ht9,h⟩ := bs h
 have ⟨t12,ht12,h⟩ := bs h
 have ⟨t17,ht17,h⟩ := bs h
 have ⟨t29,ht29,h⟩ := bs h
 refine sr mx [] H (fun _ => .o (Qe Qkb z1)<|.o (Qf (u := (x_).Name) tok9 z0 rfl)<|.o (Qh Qcx (Qag ht9) (.cons (.of z0)<|.nil))<|.q 0 rfl<|.g rfl rfl bq0 (fun _ => Qr tok3 z4)<|.g rfl rfl bq1 (fun hc => Qh Qhw (Qbw (Q9 ht12 hc)) (.cons (.of (.cond z0 hc))<|.cons (.of .k)<|.cons (.of .k)<|.nil))<|.o (QY z2 (fun hp => (.cond z0 (beqT hp))))<|.q 0 rfl<|.g rfl rfl bq0 (fun _ => Qe Ql8 z9)<|.g rfl rfl bq1 (fun hc => Qf (u := (x_).States) Qgd (.cond z0 hc) rfl)<|.g rfl rfl bq2 (fun hc => Qh Qq4 (QhA (Q9 ht17 hc)) (.cons (.of (.cond z0 hc))<|.cons (.of (Fct.weak .fnE (Qb1 Qcx (fun _ _ hq => Qag hq))))<|.nil))<|.o (QY z3 (fun hp => (.cond z0 (beqT hp))))<|.q 0 rfl<|.g rfl rfl bq0 (fun _ => Qe Qgj z14)<|.g rfl rfl bq1 (fun hc => Qf (u := (x_).Moves) Qpp (.cond z0 hc) rfl)<|.g rfl rfl bq2 (fun hc => QN ud79 (.cond z0 hc))<|.g rfl rfl bq3 (fun hc => Qd5 (.cond z0 hc) .k)<|.o (QY z4 (fun hp => (.cond z0 (beqT hp))))<|.q 0 rfl<|.g rfl rfl bq0 (fun _ => Qe Qgj z20)<|.g rfl rfl bq1 (fun hc => Qf (u := (x_).Moves) Qpp (.cond z0 hc) rfl)<|.g rfl rfl bq2 (fun _ => QdK (.cons z21<|.nil))<|.g rfl rfl bq3 (fun hc => Qh Qvg (QkT (Q9 ht29 hc)) (.cons (.of (.cond z1 hc))<|.cons (.of (Fct.weak (.cond z0 hc) (Qb1 Qvh (fun _ _ hq => Qlx hq))))<|.nil))<|.o (QY z4 (fun hp => (.cond z0 (beqT hp))))<|.o (Qa z0)<|.n) fun _ a w H => ?_
 have H := H.to [24] [_] [] rfl rfl
 refine wp_ret ?_
 obtain rfl := sj h
 exact rt undef [] hpl H (.tmp z0 .nil)

/- diorama/schema.all[diorama/api.Rule]$1 -/
noncomputable def Qdh (x_ : Qo) (c0_ : (Qo → Option Bool)) : Option (Bool) := (c0_ x_).bind fun t6 => (some (!t6))
theorem QkU {x_ : Qo} {c0_ : (Qo → Option Bool)} {r : Bool} (h : Qdh x_ c0_ = some r) : FnOk Tryz.prog 133 [QC.ty x_,tptr (Qhr.cs c0_)] [] (fun _ => []) (fun _ => tb r) := by
 unfold Qdh at h
 refine fe Tryz.func133 Tryz.ntmps133 fun M0 M w0 a hpl H => ?_
 replace H : St M w0 8 [(0,QC.ty x_),(1,tptr (Qhr.cs c0_))] [] a w0 := H
 refine sr mx [] H (fun _ => .o (QT (R := QC) (u := x_) z0)<|.o (Qa .k)<|.n) fun _ a w H => ?_
 have H := H.to [0,3] [_,_] [] rfl rfl
 have ⟨t6,ht6,h⟩ := bs h
 refine sr mx [] H (fun _ => .o (Qr tok163 z1)<|.o (Qr Qcb z1)<|.o (Qb2 (u := x_) z1 (.cons (.of z0)<|.nil) ht6)<|.o (Qar z0)<|.o (Qa z0)<|.n) fun _ a w H => ?_
 have H := H.to [4] [_] [] rfl rfl
 refine wp_ret ?_
 obtain rfl := sj h
 exact rt undef [] hpl H (.tmp z0 .nil)

/- slices.IndexFunc[[]diorama/api.Rule,diorama/api.Rule] -/
noncomputable def Qbc (s_ : (List Qo)) (f_ : (Qo → Option Bool)) : Option (Int) := (QI (fun (s4 : Int) => ((if (decide (s4 < (s_.length : Int))) = true then (idx s_ s4).bind fun t14 => (f_ t14).bind fun t16 => (if t16 = true then (some (.inr (.inr s4))) else (some (.inl (IntKind.i64.wrap (s4 + (1:Int)))))) else (some (.inr (.inl ())))) : Option ((Int) ⊕ ((Unit) ⊕ (Int))))) (0:Int)).bind fun (e5 : (Unit) ⊕ (Int)) => (match e5 with | .inl _ => (some (-1:Int)) | .inr p23 => (some p23))
theorem Qjp {s_ : (List Qo)} {f_ : (Qo → Option Bool)} {r : Int} (h : Qbc s_ f_ = some r) : FnOk Tryz.prog 139 [tsl QC s_,Qhr.ty f_] [] (fun _ => []) (fun _ => ti r) := by
 unfold Qbc at h
 refine fe Tryz.func139 Tryz.ntmps139 fun M0 M w0 a hpl H => ?_
 replace H : St M w0 19 [(0,tsl QC s_),(1,Qhr.ty f_)] [] a w0 := H
 refine sr mx [] H (fun _ => .o (Qa .k)<|.n) fun _ a w H => ?_
 have H := H.to [1,2] [_,_] [] rfl rfl
 refine wp_seq_k (fun K2 k2 => ?_)
 refine sr mx [] H (fun _ => .q 0 rfl<|.o (QN ud25 z0)<|.o (Qw .k)<|.n) fun _ a w H => ?_
 have H := H.to [1,2,3,4] [_,_,_,_] [] rfl rfl
 have ⟨e5,he5,h⟩ := bs h
 have hJp22 : ∀ (p22 : Unit) a w,(.inl p22) = e5 → St M w0 19 [] [] a w → K2 a w := by
  intro p22 a w he H
  subst he
  simp only at h
  refine k2 _ _ ?_
  refine sr mx [] H (fun _ => .o (Qa .k)<|.n) fun _ a w H => ?_
  have H := H.to [0] [_] [] rfl rfl
  refine wp_ret ?_
  obtain rfl := sj h
  exact rt undef [] hpl H (.tmp z0 .nil)
 have hJp23 : ∀ (p23 : Int) a w,(.inr p23) = e5 → St M w0 19 [(4,ti p23)] [] a w → Ret Tryz.prog Tryz.f139 M0 [] w0 (fun _ => []) (fun _ => ti r) .ret a w := by
  intro p23 a w he H
  subst he
  simp only at h
  obtain rfl := sj h
  exact rt undef [] hpl H (.tmp z0 .nil)
 refine wp_block ?_
 refine QZ _ (fun (s4 : Int) a w => St M w0 19 [(7,ti (s_.length : Int)),(8,ti s4),(0,tsl QC s_),(1,Qhr.ty f_)] [] a w) _ _ he5 (H.pick [0,1,2,3]) ?_
 clear h
 intro s4 o a w K25 hI h ho k25
 have H := hI
 clear hI
 refine sr mx [] H (fun _ => .o (QU z1 z0)<|.n) fun _ a w H => ?_
 have H := H.to [0,1,2,3,4] [_,_,_,_,_] [] rfl rfl
 refine wp_seq_k (fun _ k27 => ?_)
 refine wi H h (fun b33 h => ?_) (fun b33 h => ?_)
 ·refine wp_skip (k27 _ _ ?_)
  refine wp_seq_k (fun _ k28 => ?_)
  refine wp_block ?_
  refine sr mx [] H (fun _ => .q 2 rfl<|.o (Qa z0)<|.n) fun _ a w H => ?_
  have H := H.to [1,3,4,5,6] [_,_,_,_,_] [] rfl rfl
  have ⟨t14,ht14,h⟩ := bs h
  have ⟨t16,ht16,h⟩ := bs h
  refine sr mx [] H (fun _ => .q 4 rfl<|.q 4 rfl<|.q 2 rfl<|.o (QG ud25 Qcb z1 z0 ht14)<|.o (Qr Qcb z0)<|.o (Qb2 (u := t14) z4 (.cons (.of z0)<|.nil) ht16)<|.n) fun _ a w H => ?_
  have H := H.to [5,6,7,8,9,10] [_,_,_,_,_,_] [] rfl rfl
  refine wi H h (fun b32 h => ?_) (fun b32 h => ?_)
  ·refine sr mx [] H (fun _ => .q 1 rfl<|.o (Qa z0)<|.n) fun _ a w H => ?_
   have H := H.to [1] [_] [] rfl rfl
   refine wp_ret ?_
   exact hJp23 _ _ _ (ho _ (sj h).symm) (H.pick [0])
  refine wp_skip (k28 _ _ ?_)
  refine wr mx [] H (fun _ => .o (QV z3 .k)<|.q 0 rfl<|.n) fun _ a w H => ?_
  have H := H.to [1,4,5,6] [_,_,_,_] [] rfl rfl
  exact k25 _ _ _ (sj h).symm (H.pick [1,0,2,3])
 refine wp_exit ?_
 exact hJp22 _ _ _ (ho _ (sj h).symm) (H.pick [])

/- slices.ContainsFunc[[]diorama/api.Rule,diorama/api.Rule] -/
noncomputable def Qaw (s_ : (List Qo)) (f_ : (Qo → Option Bool)) : Option (Bool) := (Qbc s_ f_).bind fun t7 => (some (decide (t7 ≥ (0:Int))))
theorem Qe5 {s_ : (List Qo)} {f_ : (Qo → Option Bool)} {r : Bool} (h : Qaw s_ f_ = some r) : FnOk Tryz.prog 108 [tsl QC s_,Qhr.ty f_] [] (fun _ => []) (fun _ => tb r) := by
 unfold Qaw at h
 refine fe Tryz.func108 Tryz.ntmps108 fun M0 M w0 a hpl H => ?_
 replace H : St M w0 9 [(0,tsl QC s_),(1,Qhr.ty f_)] [] a w0 := H
 refine sr mx [] H (fun _ => .o (Qa .k)<|.n) fun _ a w H => ?_
 have H := H.to [1,2] [_,_] [] rfl rfl
 have ⟨t7,ht7,h⟩ := bs h
 refine sr mx [] H (fun _ => .q 0 rfl<|.q 2 rfl<|.o (Qh Qvk (Qjp ht7) (.cons (.of z1)<|.cons (.of z0)<|.nil))<|.o (QaY z0 .k)<|.o (Qa z0)<|.n) fun _ a w H => ?_
 have H := H.to [4] [_] [] rfl rfl
 refine wp_ret ?_
 obtain rfl := sj h
 exact rt undef [] hpl H (.tmp z0 .nil)

/- diorama/schema.all[diorama/api.Rule] -/
noncomputable def Qct (l_ : (List Qo)) (right_ : (Qo → Option Bool)) : Option (Bool) := (Qaw l_ (fun x0 => Qdh x0 right_)).bind fun t7 => (some (!t7))
theorem Qly {l_ : (List Qo)} {right_ : (Qo → Option Bool)} {r : Bool} (h : Qct l_ right_ = some r) : FnOk Tryz.prog 102 [tsl QC l_,Qhr.ty right_] [] (fun _ => []) (fun _ => tb r) := by
 unfold Qct at h
 refine fe Tryz.func102 Tryz.ntmps102 fun M0 M w0 a hpl H => ?_
 replace H : St M w0 9 [(0,tsl QC l_),(1,Qhr.ty right_)] [] a w0 := H
 refine sr mx [] H (fun _ => .o (QT (R := Qhr) (u := right_) z1)<|.o (Qa .k)<|.n) fun _ a w H => ?_
 have H := H.to [0,2] [_,_] [] rfl rfl
 have ⟨t7,ht7,h⟩ := bs h
 refine sr mx [] H (fun _ => .q 1 rfl<|.o (QdK (.cons z1<|.nil))<|.o (Qh Qq3 (Qe5 ht7) (.cons (.of z1)<|.cons (.of (Fct.weak z0 (Qb1 Qvi (fun _ _ hq => QkU hq))))<|.nil))<|.o (Qar z0)<|.o (Qa z0)<|.n) fun _ a w H => ?_
 have H := H.to [4] [_] [] rfl rfl
 refine wp_ret ?_
 obtain rfl := sj h
 exact rt undef [] hpl H (.tmp z0 .nil)

/- diorama/schema.isRule -/
noncomputable def Qc1 (r_ : Qo) : Option (Bool) := (Q6 (r_).Name).bind fun t5 => (opt (t5 == true) (Q6 (r_).Kind) default).bind fun t9 => (opt (((t5 && t9) == true) && (((r_).A == ([] : Str)) == false)) (Q6 (r_).A) default).bind fun t18 => (opt ((((t5 && t9) && (((r_).A == ([] : Str)) || t18)) == true) && (((r_).B == ([] : Str)) == false)) (Q6 (r_).B) default).bind fun t28 => (opt ((((t5 && t9) && (((r_).A == ([] : Str)) || t18)) && (((r_).B == ([] : Str)) || t28)) == true) (cat ((r_).A.length + (r_).B.length)) default).bind fun _ => (opt (((((t5 && t9) && (((r_).A == ([] : Str)) || t18)) && (((r_).B == ([] : Str)) || t28)) && (((r_).A ++ (r_).B) != ([] : Str))) == true) (QaQ (r_).N (-1048576:Int) (1048576:Int)) default).bind fun t42 => (some (((((t5 && t9) && (((r_).A == ([] : Str)) || t18)) && (((r_).B == ([] : Str)) || t28)) && (((r_).A ++ (r_).B) != ([] : Str))) && t42))
theorem QmP {r_ : Qo} {r : Bool} (h : Qc1 r_ = some r) : FnOk Tryz.prog 103 [QC.ty r_] [] (fun _ => []) (fun _ => tb r) := by
 unfold Qc1 at h
 refine fe Tryz.func103 Tryz.ntmps103 fun M0 M w0 a hpl H => ?_
 replace H : St M w0 44 [(0,QC.ty r_)] [] a w0 := H
 refine sr mx [] H (fun _ => .o (QT (R := QC) (u := r_) z0)<|.o (Qa .k)<|.n) fun _ a w H => ?_
 have H := H.to [0] [_] [] rfl rfl
 refine wp_seq_k (fun _ k2 => ?_)
 have ⟨t5,ht5,h⟩ := bs h
 have ⟨t9,ht9,h⟩ := bs h
 have ⟨t18,ht18,h⟩ := bs h
 have ⟨t28,ht28,h⟩ := bs h
 have ⟨u36,hu36,h⟩ := bs h
 have ⟨t42,ht42,h⟩ := bs h
 refine wr mx [] H (fun _ => .o (Qe Ql9 z0)<|.o (Qf (u := (r_).Name) tok9 z0 rfl)<|.o (Qh Qcx (Qag ht5) (.cons (.of z0)<|.nil))<|.q 0 rfl<|.g rfl rfl bq0 (fun _ => Qe Qn9 z4)<|.g rfl rfl bq1 (fun hc => Qf (u := (r_).Kind) tok9 (.cond z0 hc) rfl)<|.g rfl rfl bq2 (fun hc => Qh Qcx (Qag (Q9 ht9 hc)) (.cons (.of (.cond z0 hc))<|.nil))<|.o (QY z3 (fun hp => (.cond z0 (beqT hp))))<|.q 0 rfl<|.g rfl rfl bq0 (fun _ => Qe Qje z9)<|.g rfl rfl bq1 (fun hc => Qf (u := (r_).A) tok9 (.cond z0 hc) rfl)<|.g rfl rfl bq2 (fun hc => QcX (.cond z0 hc) .k)<|.g rfl rfl bq3 (fun hc => Qw (.cond z0 hc))<|.g rfl rfl (.c 0 rfl) (fun _ => Qe Qje z13)<|.g rfl rfl (.c 1 rfl) (fun hc => Qf (u := (r_).A) tok9 (.cond z0 hc) rfl)<|.g rfl rfl (.c 2 rfl) (fun hc => Qh Qcx (Qag (Q9 ht18 hc)) (.cons (.of (.cond z0 hc))<|.nil))<|.g rfl rfl bq7 (fun hc => Qao (.cond z3 hc) (fun hp => (.cond z0 (Qga hc (beqF hp)))))<|.o (QY z8 (fun hp => (.cond z0 (beqT hp))))<|.q 0 rfl<|.g rfl rfl bq0 (fun _ => Qe Qjf z19)<|.g rfl rfl bq1 (fun hc => Qf (u := (r_).B) tok9 (.cond z0 hc) rfl)<|.g rfl rfl bq2 (fun hc => QcX (.cond z0 hc) .k)<|.g rfl rfl bq3 (fun hc => Qw (.cond z0 hc))<|.g rfl rfl (.c 0 rfl) (fun _ => Qe Qjf z23)<|.g rfl rfl (.c 1 rfl) (fun hc => Qf (u := (r_).B) tok9 (.cond z0 hc) rfl)<|.g rfl rfl (.c 2 rfl) (fun hc => Qh Qcx (Qag (Q9 ht28 hc)) (.cons (.of (.cond z0 hc))<|.nil))<|.g rfl rfl bq7 (fun hc => Qao (.cond z3 hc) (fun hp => (.cond z0 (Qga hc (beqF hp)))))<|.o (QY z8 (fun hp => (.cond z0 (beqT hp))))<|.q 0 rfl<|.g rfl rfl bq0 (fun _ => Qe Qje z29)<|.g rfl rfl bq1 (fun hc => Qf (u := (r_).A) tok9 (.cond z0 hc) rfl)<|.g rfl rfl bq2 (fun _ => Qe Qjf (.t 31 rfl))<|.g rfl rfl bq3 (fun hc => Qf (u := (r_).B) tok9 (.cond z0 hc) rfl)<|.g rfl rfl bq4 (fun hc => Qgb (.cond z2 hc) (.cond z0 hc) (Q9 hu36 hc))<|.g rfl rfl bq5 (fun hc => Qh4 (.cond z0 hc) .k)<|.o (QY z6 (fun hp => (.cond z0 (beqT hp))))<|.q 0 rfl<|.g rfl rfl bq0 (fun _ => Qe Qq1 (.t 37 rfl))<|.g rfl rfl bq1 (fun hc => Qf (u := (r_).N) tok3 (.cond z0 hc) rfl)<|.g rfl rfl bq2 (fun hc => Qh Qhw (Qbw (Q9 ht42 hc)) (.cons (.of (.cond z0 hc))<|.cons (.of .k)<|.cons (.of .k)<|.nil))<|.o (QY z3 (fun hp => (.cond z0 (beqT hp))))<|.o (Qa z0)<|.n) fun _ a w H => ?_
 have H := H.to [41] [_] [] rfl rfl
 refine k2 _ _ ?_
 refine wp_ret ?_
 obtain rfl := sj h
 exact rt undef [] hpl H (.tmp z0 .nil)

/- diorama/schema.line -/
noncomputable def Qan (word_ : Str) (l_ : (List AnyV)) : Option (Str) := (Qad ([] : Str) word_).bind fun t11 => (QI (fun (s7 : Int × Str) => ((if (decide (s7.1 < (l_.length : Int))) = true then (idx l_ s7.1).bind fun t16 => (QgG s7.2 (32:Int)).bind fun t18 => ((if (t16).asInt.2 = true then (QkQ (t16).asInt.1).bind fun t24 => (Qad t18 t24).bind fun t25 => (some t25) else ((if (t16).asStr.2 = true then (Qad t18 (t16).asStr.1).bind fun t30 => (some t30) else (some t18))).bind fun (p90 : Str) => (some p90))).bind fun (p77 : Str) => (some (.inl ((IntKind.i64.wrap (s7.1 + (1:Int))),p77))) else (some (.inr s7.2))) : Option ((Int × Str) ⊕ ((Str))))) ((0:Int),t11)).bind fun (p66 : (Str)) => (Qfd p66).bind fun t32 => (cat (t32.length + ([10] : Str).length)).bind fun _ => (some (t32 ++ ([10] : Str)))
theorem Qa1 {word_ : Str} {l_ : (List AnyV)} {r : Str} (h : Qan word_ l_ = some r) : FnOk Tryz.prog 135 [tv (.string (sB word_)),tsl (rAny 3 9) l_] [glo] (fun _ => []) (fun _ => tv (.string (sB r))) := by
 unfold Qan at h
 refine fe Tryz.func135 Tryz.ntmps135 fun M0 M w0 a hpl H => ?_
 replace H : St M w0 34 [(0,tv (.string (sB word_))),(1,tsl (rAny 3 9) l_)] [glo] a w0 := H
 refine sr mx [] H (fun _ => .o (Qa .k)<|.n) fun _ a w H => ?_
 have H := H.to [1,2] [_,_] [_] rfl rfl
 refine sr mx [v1 0 (fun v0 => bld ([] : Str) v0 nilV)] H (fun _ => .m [] [1] rfl rfl rfl (QoK bInfo)<|.n) fun n1 a w H => ?_
 have H := H.to [0,1,2] [_,_,_] [_,_] rfl rfl
 have ⟨t11,ht11,h⟩ := bs h
 refine sr mx [v1 1 (fun v0 => bld t11 (n1 0) v0)] H (fun _ => .q 1 rfl<|.e [] [1] [2] rfl rfl rfl rfl (Qh Qgl (QbF ht11) (.cons (.of z1)<|.cons (.of z0)<|.nil))<|.n) fun n2 a w H => ?_
 have H := H.to [2,4] [_,_] [_,_] rfl rfl
 refine wp_seq_k (fun K5 k5 => ?_)
 refine sr mx [] H (fun _ => .q 1 rfl<|.o (QN Qel z0)<|.o (Qw .k)<|.n) fun _ a w H => ?_
 have H := H.to [0,1,2,3] [_,_,_,_] [_,_] rfl rfl
 have ⟨e8,he8,h⟩ := bs h
 have hJp66 : ∀ (p66 : Str) (v67 : Value) a w,p66 = e8 → St M w0 34 [(5,tv (n1 0))] [glo,bld p66 (n1 0) v67] a w → K5 a w := by
  intro p66 v67 a w he H
  subst he
  refine k5 _ _ ?_
  refine wp_seq_k (fun _ k68 => ?_)
  have ⟨t32,ht32,h⟩ := bs h
  have ⟨u33,hu33,h⟩ := bs h
  refine wr mx [] H (fun _ => .e [] [1] [] rfl rfl rfl rfl (Qh Qq8 (QnA ht32) (.cons (.of z0)<|.nil))<|.o (Qgb z0 .k hu33)<|.o (Qa z0)<|.n) fun _ a w H => ?_
  have H := H.to [2] [_] [_] rfl rfl
  refine k68 _ _ ?_
  refine wp_ret ?_
  obtain rfl := sj h
  exact rt undef [] hpl H (.tmp z0 .nil)
 refine wp_block ?_
 refine QZ _ (fun (s7 : Int × Str) a w => ∃ v37 : Value,St M w0 34 [(12,tsl (rAny 3 9) l_),(13,ti (l_.length : Int)),(14,ti s7.1),(5,tv (n1 0))] [glo,bld s7.2 (n1 0) v37] a w) _ _ he8 ⟨(n2 1),H.pick [0,1,2,3]⟩ ?_
 clear h
 intro s7 o a w K69 hI h ho k69
 obtain ⟨v37,H⟩ := hI
 refine sr mx [] H (fun _ => .o (QU z2 z1)<|.n) fun _ a w H => ?_
 have H := H.to [0,1,2,3,4] [_,_,_,_,_] [_,_] rfl rfl
 refine wp_seq_k (fun _ k71 => ?_)
 refine wi H h (fun b97 h => ?_) (fun b97 h => ?_)
 ·refine wp_skip (k71 _ _ ?_)
  refine wp_seq_k (fun K72 k72 => ?_)
  refine wp_block ?_
  have ⟨t16,ht16,h⟩ := bs h
  refine sr mx [] H (fun _ => .o (QG Qel Qeg z1 z3 ht16)<|.o (Qr Qeg z0)<|.o (Qa z0)<|.n) fun _ a w H => ?_
  have H := H.to [2,4,5,6,7] [_,_,_,_,_] [_,_] rfl rfl
  have ⟨t18,ht18,h⟩ := bs h
  refine sr mx [v1 0 (fun v0 => bld t18 (n1 0) v0)] H (fun _ => .e [] [1] [2] rfl rfl rfl rfl (Qh QvM (Qpf ht18) (.cons (.of z4)<|.cons (.of .k)<|.nil))<|.n) fun n6 a w H => ?_
  have H := H.to [1,2,3,4,5] [_,_,_,_,_] [_,_] rfl rfl
  refine sr mx [] H (fun _ => .q 0 rfl<|.n) fun _ a w H => ?_
  have H := H.to [0,2,3,4,5] [_,_,_,_,_] [_,_] rfl rfl
  refine wp_block ?_
  refine sr mx [] H (fun _ => .o (op_asI (by decide) tok3 ud3 z0)<|.o (QM z0 rfl)<|.o (QM z1 rfl)<|.n) fun _ a w H => ?_
  have H := H.to [1,2,3,4,5,6,7] [_,_,_,_,_,_,_] [_,_] rfl rfl
  have ⟨p77,hp77,h⟩ := bs h
  have hJp77 : ∀ (v87 : Value) a w,St M w0 34 [(12,tsl (rAny 3 9) l_),(13,ti (l_.length : Int)),(14,ti s7.1),(5,tv (n1 0))] [glo,bld p77 (n1 0) v87] a w → K72 a w := by
   intro v87 a w H
   refine k72 _ _ ?_
   refine wr mx [] H (fun _ => .o (QV z2 .k)<|.q 0 rfl<|.n) fun _ a w H => ?_
   have H := H.to [1,2,3,4] [_,_,_,_] [_,_] rfl rfl
   exact k69 _ _ _ (sj h).symm ⟨v87,H.pick [1,2,0,3]⟩
  replace h := hp77
  clear hp77
  refine wi H h (fun b96 h => ?_) (fun b96 h => ?_)
  ·refine sr mx [] H (fun _ => .o (Qa z1)<|.n) fun _ a w H => ?_
   have H := H.to [0,4,5,6,7] [_,_,_,_,_] [_,_] rfl rfl
   have ⟨t24,ht24,h⟩ := bs h
   have ⟨t25,ht25,h⟩ := bs h
   refine wr mx [v1 2 (fun v0 => bld t25 (n1 0) v0)] H (fun _ => .q 0 rfl<|.u [0] rfl rfl ((Qh QvN (QvO ht24) (.cons (.of z0)<|.nil)).glo)<|.e [] [1] [2] rfl rfl rfl rfl (Qh Qgl (QbF ht25) (.cons (.of z6)<|.cons (.of z0)<|.nil))<|.n) fun n10 a w H => ?_
   have H := H.to [4,5,6,7] [_,_,_,_] [_,_] rfl rfl
   obtain rfl := sj h
   exact hJp77 (n10 2) _ _ (H.pick [0,1,2,3])
  refine sr mx [] H (fun _ => .o (op_asS (by decide) tok9 ud9 z2)<|.o (QM z0 rfl)<|.o (QM z1 rfl)<|.n) fun _ a w H => ?_
  have H := H.to [1,2,6,7,8,9] [_,_,_,_,_,_] [_,_] rfl rfl
  have ⟨p90,hp90,h⟩ := bs h
  have hJp90 : ∀ (v93 : Value) a w,St M w0 34 [(12,tsl (rAny 3 9) l_),(13,ti (l_.length : Int)),(14,ti s7.1),(5,tv (n1 0))] [glo,bld p90 (n1 0) v93] a w → K72 a w := by
   intro v93 a w H
   obtain rfl := sj h
   exact hJp77 v93 _ _ (H.pick [0,1,2,3])
  replace h := hp90
  clear hp90
  refine wi H h (fun b95 h => ?_) (fun b95 h => ?_)
  ·refine sr mx [] H (fun _ => .o (Qa z1)<|.n) fun _ a w H => ?_
   have H := H.to [0,3,4,5,6] [_,_,_,_,_] [_,_] rfl rfl
   have ⟨t30,ht30,h⟩ := bs h
   refine wr mx [v1 1 (fun v0 => bld t30 (n1 0) v0)] H (fun _ => .q 0 rfl<|.e [] [1] [2] rfl rfl rfl rfl (Qh Qgl (QbF ht30) (.cons (.of z5)<|.cons (.of z0)<|.nil))<|.n) fun n13 a w H => ?_
   have H := H.to [3,4,5,6] [_,_,_,_] [_,_] rfl rfl
   obtain rfl := sj h
   exact hJp90 (n13 1) _ _ (H.pick [0,1,2,3])
  refine wp_skip ?_
  obtain rfl := sj h
  exact hJp90 (n6 0) _ _ (H.pick [2,3,4,5])
 refine wp_exit ?_
 exact hJp66 _ v37 _ _ (ho _ (sj h).symm) (H.pick [4])

/- cmp.Or[string] -/
noncomputable def QdY (vals_ : (List Str)) : Option (Str) := (QI (fun (s5 : Int) => ((if (decide (s5 < (vals_.length : Int))) = true then (idx vals_ s5).bind fun t10 => (if (t10 != ([] : Str)) = true then (some (.inr (.inr t10))) else (some (.inl (IntKind.i64.wrap (s5 + (1:Int)))))) else (some (.inr (.inl ())))) : Option ((Int) ⊕ ((Unit) ⊕ (Str))))) (0:Int)).bind fun (e6 : (Unit) ⊕ (Str)) => (match e6 with | .inl _ => (some ([] : Str)) | .inr p24 => (some p24))
theorem QmQ {vals_ : (List Str)} {r : Str} (h : QdY vals_ = some r) : FnOk Tryz.prog 166 [tsl rS vals_] [] (fun _ => []) (fun _ => tv (.string (sB r))) := by
 unfold QdY at h
 refine fe Tryz.func166 Tryz.ntmps166 fun M0 M w0 a hpl H => ?_
 replace H : St M w0 18 [(0,tsl rS vals_)] [] a w0 := H
 refine sr mx [] H (fun _ => .o (Qa .k)<|.n) fun _ a w H => ?_
 have H := H.to [1] [_] [] rfl rfl
 refine sr mx [] H (fun _ => .o (Qa .k)<|.n) fun _ a w H => ?_
 have H := H.to [0,1] [_,_] [] rfl rfl
 refine wp_seq_k (fun K3 k3 => ?_)
 refine sr mx [] H (fun _ => .q 1 rfl<|.o (QN ud32 z0)<|.o (Qw .k)<|.n) fun _ a w H => ?_
 have H := H.to [0,1,2,3] [_,_,_,_] [] rfl rfl
 have ⟨e6,he6,h⟩ := bs h
 have hJp23 : ∀ (p23 : Unit) a w,(.inl p23) = e6 → St M w0 18 [(3,tv (.string (sB ([] : Str))))] [] a w → K3 a w := by
  intro p23 a w he H
  subst he
  simp only at h
  refine k3 _ _ ?_
  refine sr mx [] H (fun _ => .q 0 rfl<|.o (Qa z0)<|.n) fun _ a w H => ?_
  have H := H.to [1] [_] [] rfl rfl
  refine wp_ret ?_
  obtain rfl := sj h
  exact rt undef [] hpl H (.tmp z0 .nil)
 have hJp24 : ∀ (p24 : Str) a w,(.inr p24) = e6 → St M w0 18 [(2,tv (.string (sB p24)))] [] a w → Ret Tryz.prog Tryz.f166 M0 [] w0 (fun _ => []) (fun _ => tv (.string (sB r))) .ret a w := by
  intro p24 a w he H
  subst he
  simp only at h
  obtain rfl := sj h
  exact rt undef [] hpl H (.tmp z0 .nil)
 refine wp_block ?_
 refine QZ _ (fun (s5 : Int) a w => St M w0 18 [(6,tsl rS vals_),(7,ti (vals_.length : Int)),(8,ti s5),(3,tv (.string (sB ([] : Str))))] [] a w) _ _ he6 (H.pick [0,1,2,3]) ?_
 clear h
 intro s5 o a w K26 hI h ho k26
 have H := hI
 clear hI
 refine sr mx [] H (fun _ => .o (QU z2 z1)<|.n) fun _ a w H => ?_
 have H := H.to [0,1,2,3,4] [_,_,_,_,_] [] rfl rfl
 refine wp_seq_k (fun _ k28 => ?_)
 refine wi H h (fun b34 h => ?_) (fun b34 h => ?_)
 ·refine wp_skip (k28 _ _ ?_)
  refine wp_seq_k (fun _ k29 => ?_)
  refine wp_block ?_
  have ⟨t10,ht10,h⟩ := bs h
  refine sr mx [] H (fun _ => .o (QG ud32 tok9 z1 z3 ht10)<|.o (Qr tok9 z0)<|.o (Qa z0)<|.n) fun _ a w H => ?_
  have H := H.to [2,4,5,6,7] [_,_,_,_,_] [] rfl rfl
  refine sr mx [] H (fun _ => .q 0 rfl<|.q 5 rfl<|.o (Qh4 z1 z0)<|.n) fun _ a w H => ?_
  have H := H.to [2,3,4,5,6,7] [_,_,_,_,_,_] [] rfl rfl
  refine wi H h (fun b33 h => ?_) (fun b33 h => ?_)
  ·refine sr mx [] H (fun _ => .q 1 rfl<|.o (Qa z0)<|.n) fun _ a w H => ?_
   have H := H.to [1] [_] [] rfl rfl
   refine wp_ret ?_
   exact hJp24 _ _ _ (ho _ (sj h).symm) (H.pick [0])
  refine wp_skip (k29 _ _ ?_)
  refine wr mx [] H (fun _ => .o (QV z4 .k)<|.q 0 rfl<|.n) fun _ a w H => ?_
  have H := H.to [1,4,5,6] [_,_,_,_] [] rfl rfl
  exact k26 _ _ _ (sj h).symm (H.pick [1,2,0,3])
 refine wp_exit ?_
 exact hJp23 _ _ _ (ho _ (sj h).symm) (H.pick [4])

/- diorama/schema.named -/
noncomputable def Qcm (s_ : Str) : Option (Str) := (QdY [s_,([45] : Str)]).bind fun t5 => (some t5)
theorem QhB {s_ : Str} {r : Str} (h : Qcm s_ = some r) : FnOk Tryz.prog 137 [tv (.string (sB s_))] [] (fun _ => []) (fun _ => tv (.string (sB r))) := by
 unfold Qcm at h
 refine fe Tryz.func137 Tryz.ntmps137 fun M0 M w0 a hpl H => ?_
 replace H : St M w0 6 [(0,tv (.string (sB s_)))] [] a w0 := H
 refine sr mx [] H (fun _ => .o (Qa .k)<|.n) fun _ a w H => ?_
 have H := H.to [1] [_] [] rfl rfl
 have ⟨t5,ht5,h⟩ := bs h
 refine sr mx [] H (fun _ => .q 0 rfl<|.o (QE (R := rS) (us := [s_,([45] : Str)]) ud32 tok9 (.cons z0<|.cons .k<|.nil _) rfl (leb rfl))<|.o (Qh Qvx (QmQ ht5) (.cons (.of z0)<|.nil))<|.o (Qa z0)<|.n) fun _ a w H => ?_
 have H := H.to [3] [_] [] rfl rfl
 refine wp_ret ?_
 obtain rfl := sj h
 exact rt undef [] hpl H (.tmp z0 .nil)

/- diorama/schema.field -/
noncomputable def QdA (f_ : Qc) : Option (Str) := (idx Qjl (f_).Kind).bind fun t9 => (if ((f_).Kind == (0:Int)) = true then (Qan t9 [(AnyV.str (f_).Name),(AnyV.int (f_).Lo)]).bind fun t23 => (some t23) else (if ((f_).Kind == (2:Int)) = true then (Qan t9 [(AnyV.str (f_).Name),(AnyV.int (f_).Lo),(AnyV.int (f_).Hi)]).bind fun t37 => (some t37) else (if ((f_).Kind == (3:Int)) = true then (QI (fun (s14 : Int × List AnyV) => ((if (decide (s14.1 < ((f_).Words.length : Int))) = true then (idx (f_).Words s14.1).bind fun t54 => (idx (f_).Weights s14.1).bind fun t62 => (rm (s14.2.length + [(AnyV.str t54),(AnyV.int t62)].length)).bind fun _ => (some (.inl ((IntKind.i64.wrap (s14.1 + (1:Int))),(s14.2 ++ [(AnyV.str t54),(AnyV.int t62)])))) else (some (.inr s14.2))) : Option ((Int × List AnyV) ⊕ ((List AnyV))))) ((0:Int),[(AnyV.str (f_).Name),(AnyV.int ((f_).Words.length : Int))])).bind fun (p27 : (List AnyV)) => (Qan t9 p27).bind fun t70 => (some t70) else (if ((f_).Kind == (6:Int)) = true then (Qan t9 [(AnyV.str (f_).Name),(AnyV.str (f_).Of)]).bind fun t81 => (some t81) else (if ((f_).Kind == (7:Int)) = true then (Qan t9 [(AnyV.str (f_).Name),(AnyV.str (f_).Up),(AnyV.str (f_).Of),(AnyV.int (f_).Lo),(AnyV.int (f_).Hi)]).bind fun t101 => (some t101) else (if ((f_).Kind == (8:Int)) = true then (Qan t9 [(AnyV.str (f_).Name),(AnyV.str (f_).Up),(AnyV.str (f_).Of)]).bind fun t115 => (some t115) else (Qcm (f_).Of).bind fun t122 => (Qan t9 [(AnyV.str (f_).Name),(AnyV.str t122),(AnyV.int (f_).Lo),(AnyV.int (f_).Hi)]).bind fun t131 => (some t131)))))))
theorem QnD {f_ : Qc} {r : Str} (h : QdA f_ = some r) : FnOk Tryz.prog 136 [Qd.ty f_] [glo] (fun _ => []) (fun _ => tv (.string (sB r))) := by
 unfold QdA at h
 refine fe Tryz.func136 Tryz.ntmps136 fun M0 M w0 a hpl H => ?_
 replace H : St M w0 132 [(0,Qd.ty f_)] [glo] a w0 := H
 refine sr mx [] H (fun _ => .o (QT (R := Qd) (u := f_) z0)<|.o (Qa .k)<|.n) fun _ a w H => ?_
 have H := H.to [0] [_] [_] rfl rfl
 have ⟨t9,ht9,h⟩ := bs h
 refine sr mx [] H (fun _ => .o (Qe QaX z0)<|.o (Qf (u := (f_).Kind) tok3 z0 rfl)<|.u [0] rfl rfl (QpM Tryz.underlying210 tok9 QtP rfl z0 rfl ht9)<|.o (Qr tok9 z0)<|.o (Qa z0)<|.n) fun _ a w H => ?_
 have H := H.to [4,5] [_,_] [_] rfl rfl
 refine wp_seq_k (fun _ k3 => ?_)
 refine sr mx [] H (fun _ => .o (Qe QaX z1)<|.o (Qf (u := (f_).Kind) tok3 z0 rfl)<|.n) fun _ a w H => ?_
 have H := H.to [1,2,3] [_,_,_] [_] rfl rfl
 refine wp_block ?_
 refine sr mx [] H (fun _ => .o (Q4 z0 .k)<|.o (Qa z0)<|.n) fun _ a w H => ?_
 have H := H.to [1,2,3,4] [_,_,_,_] [_] rfl rfl
 refine wi H h (fun b48 h => ?_) (fun b48 h => ?_)
 ·have ⟨t23,ht23,h⟩ := bs h
  refine sr mx [] H (fun _ => .q 2 rfl<|.o (Qe Qce z4)<|.o (Qf (u := (f_).Name) tok9 z0 rfl)<|.o (Qcg ud9 z0)<|.o (Qe Qbd z7)<|.o (Qf (u := (f_).Lo) tok3 z0 rfl)<|.o (QdL ud3 z0)<|.o (QE (R := (rAny 3 9)) (us := [(AnyV.str (f_).Name),(AnyV.int (f_).Lo)]) Qel Qeg (.cons z3<|.cons z0<|.nil _) rfl (leb rfl))<|.u [0] rfl rfl ((Qh Qes (Qa1 ht23) (.cons (.of z7)<|.cons (.of z0)<|.nil)).glo)<|.o (Qa z0)<|.n) fun _ a w H => ?_
  have H := H.to [9] [_] [_] rfl rfl
  refine wp_ret ?_
  obtain rfl := sj h
  exact rt undef [] hpl H (.tmp z0 .nil)
 refine sr mx [] H (fun _ => .o (Q4 z1 .k)<|.o (Qa z0)<|.n) fun _ a w H => ?_
 have H := H.to [1,3,4,5] [_,_,_,_] [_] rfl rfl
 refine wi H h (fun b47 h => ?_) (fun b47 h => ?_)
 ·have ⟨t37,ht37,h⟩ := bs h
  refine sr mx [] H (fun _ => .q 2 rfl<|.o (Qe Qce z4)<|.o (Qf (u := (f_).Name) tok9 z0 rfl)<|.o (Qcg ud9 z0)<|.o (Qe Qbd z7)<|.o (Qf (u := (f_).Lo) tok3 z0 rfl)<|.o (QdL ud3 z0)<|.o (Qe Qb0 z10)<|.o (Qf (u := (f_).Hi) tok3 z0 rfl)<|.o (QdL ud3 z0)<|.o (QE (R := (rAny 3 9)) (us := [(AnyV.str (f_).Name),(AnyV.int (f_).Lo),(AnyV.int (f_).Hi)]) Qel Qeg (.cons z6<|.cons z3<|.cons z0<|.nil _) rfl (leb rfl))<|.u [0] rfl rfl ((Qh Qes (Qa1 ht37) (.cons (.of z10)<|.cons (.of z0)<|.nil)).glo)<|.o (Qa z0)<|.n) fun _ a w H => ?_
  have H := H.to [12] [_] [_] rfl rfl
  refine wp_ret ?_
  obtain rfl := sj h
  exact rt undef [] hpl H (.tmp z0 .nil)
 refine sr mx [] H (fun _ => .o (Q4 z1 .k)<|.o (Qa z0)<|.n) fun _ a w H => ?_
 have H := H.to [1,3,4,5] [_,_,_,_] [_] rfl rfl
 refine wi H h (fun b46 h => ?_) (fun b46 h => ?_)
 ·refine sr mx [v1 7 (fun v0 => own (rAny 3 9) 20 [(AnyV.str (f_).Name),(AnyV.int ((f_).Words.length : Int))] v0)] H (fun _ => .o (Qe Qce z3)<|.o (Qf (u := (f_).Name) tok9 z0 rfl)<|.o (Qcg ud9 z0)<|.o (Qe Qh5 z6)<|.o (Qf (u := (f_).Words) Qgd z0 rfl)<|.o (QN ud32 z0)<|.o (QdL ud3 z0)<|.m [] [1] rfl rfl rfl (QgE (R := (rAny 3 9)) (us := [(AnyV.str (f_).Name),(AnyV.int ((f_).Words.length : Int))]) Qel Qeg (.cons z4<|.cons z0<|.nil _) rfl (leb rfl) (leb rfl))<|.ud (f := fun v => tv v) 7 rfl [] rfl rfl (Qa z0)<|.n) fun n8 a w H => ?_
  have H := H.to [7,8,11,12] [_,_,_,_] [_,_] rfl rfl
  refine wp_seq_k (fun K12 k12 => ?_)
  refine sr mx [] H (fun _ => .o (Qe Qh5 z3)<|.o (Qf (u := (f_).Words) Qgd z0 rfl)<|.o (QN ud32 z0)<|.o (Qw .k)<|.n) fun _ a w H => ?_
  have H := H.to [1,2,3,4,5,6,7] [_,_,_,_,_,_,_] [_,_] rfl rfl
  have ⟨e15,he15,h⟩ := bs h
  have hJp27 : ∀ (p27 : List AnyV) (v28 : Value) a w,p27 = e15 → St M w0 132 [(4,tv v28),(3,tv (.string (sB t9)))] [glo,own (rAny 3 9) 20 p27 v28] a w → K12 a w := by
   intro p27 v28 a w he H
   subst he
   refine k12 _ _ ?_
   have ⟨t70,ht70,h⟩ := bs h
   refine sr mx [] H (fun _ => .q 1 rfl<|.q 1 rfl<|.u [0,1] rfl rfl ((Qg8 [own (rAny 3 9) 20 p27 v28] Qes (Qa1 ht70) (.cons (.of z1)<|.cons (.own z0 (.head _))<|.nil) (fun _ => Qg7) (fun _ => Qlp (x := undef))).glo)<|.o (Qa z0)<|.n) fun _ a w H => ?_
   have H := H.to [1,3,4] [_,_,_] [_,_] rfl rfl
   refine wp_ret ?_
   obtain rfl := sj h
   exact rt undef [] hpl H (.tmp z1 .nil)
  refine wp_block ?_
  refine QZ _ (fun (s14 : Int × List AnyV) a w => ∃ v21 : Value,St M w0 132 [(49,tsl rS (f_).Words),(50,ti ((f_).Words.length : Int)),(51,ti s14.1),(4,tv v21),(3,tv (.string (sB t9))),(1,tptr (Qd.cs f_))] [glo,own (rAny 3 9) 20 s14.2 v21] a w) _ _ he15 ⟨(n8 7),H.pick [0,1,2,4,5,6]⟩ ?_
  clear h
  intro s14 o a w K30 hI h ho k30
  obtain ⟨v21,H⟩ := hI
  refine sr mx [] H (fun _ => .o (QU z2 z1)<|.n) fun _ a w H => ?_
  have H := H.to [0,1,2,3,4,5,6] [_,_,_,_,_,_,_] [_,_] rfl rfl
  refine wp_seq_k (fun _ k32 => ?_)
  refine wi H h (fun b35 h => ?_) (fun b35 h => ?_)
  ·refine wp_skip (k32 _ _ ?_)
   refine wp_seq_k (fun _ k33 => ?_)
   refine wp_block ?_
   have ⟨t54,ht54,h⟩ := bs h
   refine sr mx [] H (fun _ => .q 3 rfl<|.o (QG ud32 tok9 z2 z4 ht54)<|.o (Qr tok9 z0)<|.o (Qa z2)<|.o (Qa z1)<|.n) fun _ a w H => ?_
   have H := H.to [3,4,6,7,8,9,10,11] [_,_,_,_,_,_,_,_] [_,_] rfl rfl
   have ⟨t62,ht62,h⟩ := bs h
   have ⟨u66,hu66,h⟩ := bs h
   refine wr mx [v1 10 (fun v0 => own (rAny 3 9) 20 (s14.2 ++ [(AnyV.str t54),(AnyV.int t62)]) v0)] H (fun _ => .q 5 rfl<|.q 2 rfl<|.o (Qcg ud9 z0)<|.o (Qe Qgi z10)<|.o (Qf (u := (f_).Weights) Qgc z0 rfl)<|.q 5 rfl<|.o (QG ud22 tok3 z1 z0 ht62)<|.o (Qr tok3 z0)<|.o (QdL ud3 z0)<|.o (QE (R := (rAny 3 9)) (us := [(AnyV.str t54),(AnyV.int t62)]) Qel Qeg (.cons z6<|.cons z0<|.nil _) rfl (leb rfl))<|.e [] [1] [2] rfl rfl rfl rfl (Qaf (R := (rAny 3 9)) Qel Qeg (leb rfl) z9 z0 hu66)<|.ud (f := fun v => tv v) 10 rfl [] rfl rfl (Qa z0)<|.n) fun n12 a w H => ?_
   have H := H.to [10,11,14,15,16,17,18] [_,_,_,_,_,_,_] [_,_] rfl rfl
   refine k33 _ _ ?_
   refine wr mx [] H (fun _ => .o (QV z4 .k)<|.q 0 rfl<|.n) fun _ a w H => ?_
   have H := H.to [1,2,3,4,5,6,7] [_,_,_,_,_,_,_] [_,_] rfl rfl
   exact k30 _ _ _ (sj h).symm ⟨(n12 10),H.pick [3,4,0,2,5,6]⟩
  refine wp_exit ?_
  exact hJp27 _ v21 _ _ (ho _ (sj h).symm) (H.pick [4,5])
 refine sr mx [] H (fun _ => .o (Q4 z1 .k)<|.o (Qa z0)<|.n) fun _ a w H => ?_
 have H := H.to [1,3,4,5] [_,_,_,_] [_] rfl rfl
 refine wi H h (fun b45 h => ?_) (fun b45 h => ?_)
 ·have ⟨t81,ht81,h⟩ := bs h
  refine sr mx [] H (fun _ => .q 2 rfl<|.o (Qe Qce z4)<|.o (Qf (u := (f_).Name) tok9 z0 rfl)<|.o (Qcg ud9 z0)<|.o (Qe QaA z7)<|.o (Qf (u := (f_).Of) tok9 z0 rfl)<|.o (Qcg ud9 z0)<|.o (QE (R := (rAny 3 9)) (us := [(AnyV.str (f_).Name),(AnyV.str (f_).Of)]) Qel Qeg (.cons z3<|.cons z0<|.nil _) rfl (leb rfl))<|.u [0] rfl rfl ((Qh Qes (Qa1 ht81) (.cons (.of z7)<|.cons (.of z0)<|.nil)).glo)<|.o (Qa z0)<|.n) fun _ a w H => ?_
  have H := H.to [9] [_] [_] rfl rfl
  refine wp_ret ?_
  obtain rfl := sj h
  exact rt undef [] hpl H (.tmp z0 .nil)
 refine sr mx [] H (fun _ => .o (Q4 z1 .k)<|.o (Qa z0)<|.n) fun _ a w H => ?_
 have H := H.to [1,3,4,5] [_,_,_,_] [_] rfl rfl
 refine wi H h (fun b44 h => ?_) (fun b44 h => ?_)
 ·have ⟨t101,ht101,h⟩ := bs h
  refine sr mx [] H (fun _ => .q 2 rfl<|.o (Qe Qce z4)<|.o (Qf (u := (f_).Name) tok9 z0 rfl)<|.o (Qcg ud9 z0)<|.o (Qe QeU z7)<|.o (Qf (u := (f_).Up) tok9 z0 rfl)<|.o (Qcg ud9 z0)<|.o (Qe QaA z10)<|.o (Qf (u := (f_).Of) tok9 z0 rfl)<|.o (Qcg ud9 z0)<|.o (Qe Qbd z13)<|.o (Qf (u := (f_).Lo) tok3 z0 rfl)<|.o (QdL ud3 z0)<|.o (Qe Qb0 z16)<|.o (Qf (u := (f_).Hi) tok3 z0 rfl)<|.o (QdL ud3 z0)<|.o (QE (R := (rAny 3 9)) (us := [(AnyV.str (f_).Name),(AnyV.str (f_).Up),(AnyV.str (f_).Of),(AnyV.int (f_).Lo),(AnyV.int (f_).Hi)]) Qel Qeg (.cons z12<|.cons z9<|.cons z6<|.cons z3<|.cons z0<|.nil _) rfl (leb rfl))<|.u [0] rfl rfl ((Qh Qes (Qa1 ht101) (.cons (.of z16)<|.cons (.of z0)<|.nil)).glo)<|.o (Qa z0)<|.n) fun _ a w H => ?_
  have H := H.to [18] [_] [_] rfl rfl
  refine wp_ret ?_
  obtain rfl := sj h
  exact rt undef [] hpl H (.tmp z0 .nil)
 refine sr mx [] H (fun _ => .o (Q4 z1 .k)<|.o (Qa z0)<|.n) fun _ a w H => ?_
 have H := H.to [1,4,5] [_,_,_] [_] rfl rfl
 refine wi H h (fun b43 h => ?_) (fun b43 h => ?_)
 ·have ⟨t115,ht115,h⟩ := bs h
  refine sr mx [] H (fun _ => .q 1 rfl<|.o (Qe Qce z3)<|.o (Qf (u := (f_).Name) tok9 z0 rfl)<|.o (Qcg ud9 z0)<|.o (Qe QeU z6)<|.o (Qf (u := (f_).Up) tok9 z0 rfl)<|.o (Qcg ud9 z0)<|.o (Qe QaA z9)<|.o (Qf (u := (f_).Of) tok9 z0 rfl)<|.o (Qcg ud9 z0)<|.o (QE (R := (rAny 3 9)) (us := [(AnyV.str (f_).Name),(AnyV.str (f_).Up),(AnyV.str (f_).Of)]) Qel Qeg (.cons z6<|.cons z3<|.cons z0<|.nil _) rfl (leb rfl))<|.u [0] rfl rfl ((Qh Qes (Qa1 ht115) (.cons (.of z10)<|.cons (.of z0)<|.nil)).glo)<|.o (Qa z0)<|.n) fun _ a w H => ?_
  have H := H.to [12] [_] [_] rfl rfl
  refine wp_ret ?_
  obtain rfl := sj h
  exact rt undef [] hpl H (.tmp z0 .nil)
 refine wp_skip (k3 _ _ ?_)
 have ⟨t122,ht122,h⟩ := bs h
 have ⟨t131,ht131,h⟩ := bs h
 refine sr mx [] H (fun _ => .q 1 rfl<|.o (Qe Qce z3)<|.o (Qf (u := (f_).Name) tok9 z0 rfl)<|.o (Qcg ud9 z0)<|.o (Qe QaA z6)<|.o (Qf (u := (f_).Of) tok9 z0 rfl)<|.o (Qh Qoa (QhB ht122) (.cons (.of z0)<|.nil))<|.o (Qcg ud9 z0)<|.o (Qe Qbd z10)<|.o (Qf (u := (f_).Lo) tok3 z0 rfl)<|.o (QdL ud3 z0)<|.o (Qe Qb0 z13)<|.o (Qf (u := (f_).Hi) tok3 z0 rfl)<|.o (QdL ud3 z0)<|.o (QE (R := (rAny 3 9)) (us := [(AnyV.str (f_).Name),(AnyV.str t122),(AnyV.int (f_).Lo),(AnyV.int (f_).Hi)]) Qel Qeg (.cons z10<|.cons z6<|.cons z3<|.cons z0<|.nil _) rfl (leb rfl))<|.u [0] rfl rfl ((Qh Qes (Qa1 ht131) (.cons (.of z14)<|.cons (.of z0)<|.nil)).glo)<|.o (Qa z0)<|.n) fun _ a w H => ?_
 have H := H.to [16] [_] [_] rfl rfl
 refine wp_ret ?_
 obtain rfl := sj h
 exact rt undef [] hpl H (.tmp z0 .nil)

end Go.Proofs.YtcdccjagknlmpaaGreatDoor
