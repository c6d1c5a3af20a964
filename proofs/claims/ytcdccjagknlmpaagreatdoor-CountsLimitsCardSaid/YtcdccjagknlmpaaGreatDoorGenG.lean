/- Go functions as Lean functions, and the proofs that they compute them, written by a program. No condition. -/
import Derived.Test.YtcdccjagknlmpaaGreatDoorGenF
namespace Go.Proofs.YtcdccjagknlmpaaGreatDoor
open Go.Sim
set_option maxRecDepth 100000
set_option maxHeartbeats 4000000

/- diorama/dioramaref09.isKind -/
noncomputable def Qgh (k_ : Qj) : Option (Bool) := (Qa8 (k_).Name).bind fun t6 => (opt ((!t6) == false) (Qdt (k_).Lo (k_).Hi (0:Int) (65536:Int)) default).bind fun t13 => (if (((!t6) || (!t13)) || (decide (((k_).Fields.length : Int) > (10:Int)))) = true then (some false) else (QF (fun (s7 : Int) => ((if (decide (s7 < ((k_).Fields.length : Int))) = true then (idx (k_).Fields s7).bind fun t32 => (Qfv t32).bind fun t34 => (if (!t34) = true then (some (.inr (.inr false))) else (some (.inl (IntKind.i64.wrap (s7 + (1:Int)))))) else (some (.inr (.inl ())))) : Option ((Int) ⊕ ((Unit) ⊕ (Bool))))) (0:Int)).bind fun (e8 : (Unit) ⊕ (Bool)) => (match e8 with | .inl _ => (some true) | .inr p24 => (some p24)))
theorem Qoc {k_ : Qj} {r : Bool} (h : Qgh k_ = some r) : FnOk Tryz.prog 112 [Qk.ty k_] [] (fun _ => []) (fun _ => tb r) := by
 unfold Qgh at h
 refine fe Tryz.func112 Tryz.ntmps112 fun M0 M w0 a hpl H => ?_
 replace H : St M w0 36 [(0,Qk.ty k_)] [] a w0 := H
 refine sr mx [] H (fun _ => .o (QV (R := Qk) (u := k_) z0)<|.o (Qa .k)<|.n) fun _ a w H => ?_
 have H := H.to [0] [_] [] rfl rfl
 refine wp_seq_k (fun _ k2 => ?_)
 have ⟨t6,ht6,h⟩ := bs h
 have ⟨t13,ht13,h⟩ := bs h
 refine sr mx [] H (fun _ => .o (Qe Qbo z0)<|.o (Qd (u := (k_).Name) tok9 z0 rfl)<|.o (Qf Qgx (QbA ht6) (.cons (.of z0)<|.nil))<|.o (Qae z0)<|.q 0 rfl<|.g rfl rfl bq0 (fun _ => Qe QhZ z5)<|.g rfl rfl bq1 (fun hc => Qd (u := (k_).Lo) tok3 (.cond z0 hc) rfl)<|.g rfl rfl bq2 (fun _ => Qe Qh0 z7)<|.g rfl rfl bq3 (fun hc => Qd (u := (k_).Hi) tok3 (.cond z0 hc) rfl)<|.g rfl rfl bq4 (fun hc => Qf Qke (Qe0 (Qaj ht13 hc)) (.cons (.of (.cond z2 hc))<|.cons (.of (.cond z0 hc))<|.cons (.of .k)<|.cons (.of .k)<|.nil))<|.g rfl rfl bq5 (fun hc => Qae (.cond z0 hc))<|.o (Q6 z6 (fun hp => (.cond z0 (beqF hp))))<|.q 0 rfl<|.g rfl rfl bq0 (fun _ => Qe Qaf z13)<|.g rfl rfl bq1 (fun hc => Qd (u := (k_).Fields) QaK (.cond z0 hc) rfl)<|.g rfl rfl bq2 (fun hc => QE ud53 (.cond z0 hc))<|.g rfl rfl bq3 (fun hc => Qa0 (.cond z0 hc) .k)<|.o (Q6 z4 (fun hp => (.cond z0 (beqF hp))))<|.n) fun _ a w H => ?_
 have H := H.to [17,18] [_,_] [] rfl rfl
 refine wi H h (fun b34 h => ?_) (fun b34 h => ?_)
 ·refine sr mx [] H (fun _ => .o (Qa .k)<|.n) fun _ a w H => ?_
  have H := H.to [0] [_] [] rfl rfl
  refine wp_ret ?_
  obtain rfl := sj h
  exact rt undef [] hpl H (.tmp z0 .nil)
 refine wp_skip (k2 _ _ ?_)
 refine wp_seq_k (fun K5 k5 => ?_)
 refine sr mx [] H (fun _ => .o (Qa .k)<|.n) fun _ a w H => ?_
 have H := H.to [0,2] [_,_] [] rfl rfl
 have ⟨e8,he8,h⟩ := bs h
 have hJp23 : ∀ (p23 : Unit) a w,(.inl p23) = e8 → St M w0 36 [] [] a w → K5 a w := by
  intro p23 a w he H
  subst he
  simp only at h
  refine k5 _ _ ?_
  refine sr mx [] H (fun _ => .o (Qa .k)<|.n) fun _ a w H => ?_
  have H := H.to [0] [_] [] rfl rfl
  refine wp_ret ?_
  obtain rfl := sj h
  exact rt undef [] hpl H (.tmp z0 .nil)
 have hJp24 : ∀ (p24 : Bool) a w,(.inr p24) = e8 → St M w0 36 [(2,tb p24)] [] a w → Ret Tryz.prog Tryz.f112 M0 [] w0 (fun _ => []) (fun _ => tb r) .ret a w := by
  intro p24 a w he H
  subst he
  simp only at h
  obtain rfl := sj h
  exact rt undef [] hpl H (.tmp z0 .nil)
 refine wp_block ?_
 refine QR _ (fun (s7 : Int) a w => St M w0 36 [(3,ti s7),(1,tptr (Qk.cs k_))] [] a w) _ _ he8 (H.pick [0,1]) ?_
 clear h
 intro s7 o a w K26 hI h ho k26
 have H := hI
 clear hI
 refine wp_seq_k (fun _ k27 => ?_)
 refine sr mx [] H (fun _ => .q 0 rfl<|.o (Qe Qaf z2)<|.o (Qd (u := (k_).Fields) QaK z0 rfl)<|.o (QE ud53 z0)<|.o (QG z3 z0)<|.n) fun _ a w H => ?_
 have H := H.to [4,5,6] [_,_,_] [] rfl rfl
 refine wi H h (fun b33 h => ?_) (fun b33 h => ?_)
 ·refine wp_skip (k27 _ _ ?_)
  refine wp_seq_k (fun _ k29 => ?_)
  refine wp_block ?_
  have ⟨t32,ht32,h⟩ := bs h
  have ⟨t34,ht34,h⟩ := bs h
  refine sr mx [] H (fun _ => .o (Qe Qaf z2)<|.o (Qd (u := (k_).Fields) QaK z0 rfl)<|.q 3 rfl<|.o (Qr ud53 QI z1 z0 ht32)<|.o (Qm QI z0)<|.o (Qf Quh (Qns ht34) (.cons (.of z0)<|.nil))<|.o (Qae z0)<|.n) fun _ a w H => ?_
  have H := H.to [6,8,9] [_,_,_] [] rfl rfl
  refine wi H h (fun b32 h => ?_) (fun b32 h => ?_)
  ·refine sr mx [] H (fun _ => .o (Qa .k)<|.n) fun _ a w H => ?_
   have H := H.to [0] [_] [] rfl rfl
   refine wp_ret ?_
   exact hJp24 _ _ _ (ho _ (sj h).symm) (H.pick [0])
  refine wp_skip (k29 _ _ ?_)
  refine wr mx [] H (fun _ => .q 1 rfl<|.o (QQ z0 .k)<|.o (Qa z0)<|.n) fun _ a w H => ?_
  have H := H.to [2,4] [_,_] [] rfl rfl
  exact k26 _ _ _ (sj h).symm (H.pick [0,1])
 refine wp_exit ?_
 exact hJp23 _ _ _ (ho _ (sj h).symm) (H.pick [])

/- diorama/dioramaref09.isLife -/
noncomputable def Qgi (x_ : Qo) : Option (Bool) := (Qa8 (x_).Name).bind fun t6 => (opt ((!t6) == false) (QaP ((x_).States.length : Int) (1:Int) (12:Int)) default).bind fun t12 => (opt (((!t6) || (!t12)) == false) (Qfu (x_).States) default).bind fun t18 => (if ((((!t6) || (!t12)) || (!t18)) || (decide (((x_).Moves.length : Int) > (32:Int)))) = true then (some false) else (QF (fun (s7 : Int) => ((if (decide (s7 < ((x_).Moves.length : Int))) = true then (idx (x_).Moves s7).bind fun t37 => (QaP (t37).a0 (0:Int) (IntKind.i64.wrap (((x_).States.length : Int) - (1:Int)))).bind fun t44 => (opt ((!t44) == false) (idx (x_).Moves s7) default).bind fun t50 => (opt ((!t44) == false) (QaP (t50).a1 (0:Int) (IntKind.i64.wrap (((x_).States.length : Int) - (1:Int)))) default).bind fun t57 => (if ((!t44) || (!t57)) = true then (some (.inr (.inr false))) else (some (.inl (IntKind.i64.wrap (s7 + (1:Int)))))) else (some (.inr (.inl ())))) : Option ((Int) ⊕ ((Unit) ⊕ (Bool))))) (0:Int)).bind fun (e8 : (Unit) ⊕ (Bool)) => (match e8 with | .inl _ => (some true) | .inr p24 => (some p24)))
theorem Qod {x_ : Qo} {r : Bool} (h : Qgi x_ = some r) : FnOk Tryz.prog 113 [Qz.ty x_] [] (fun _ => []) (fun _ => tb r) := by
 unfold Qgi at h
 refine fe Tryz.func113 Tryz.ntmps113 fun M0 M w0 a hpl H => ?_
 replace H : St M w0 60 [(0,Qz.ty x_)] [] a w0 := H
 refine sr mx [] H (fun _ => .o (QV (R := Qz) (u := x_) z0)<|.o (Qa .k)<|.n) fun _ a w H => ?_
 have H := H.to [0] [_] [] rfl rfl
 refine wp_seq_k (fun _ k2 => ?_)
 have ⟨t6,ht6,h⟩ := bs h
 have ⟨t12,ht12,h⟩ := bs h
 have ⟨t18,ht18,h⟩ := bs h
 refine sr mx [] H (fun _ => .o (Qe Qgw z0)<|.o (Qd (u := (x_).Name) tok9 z0 rfl)<|.o (Qf Qgx (QbA ht6) (.cons (.of z0)<|.nil))<|.o (Qae z0)<|.q 0 rfl<|.g rfl rfl bq0 (fun _ => Qe Qed z5)<|.g rfl rfl bq1 (fun hc => Qd (u := (x_).States) Qbx (.cond z0 hc) rfl)<|.g rfl rfl bq2 (fun hc => QE ud32 (.cond z0 hc))<|.g rfl rfl bq3 (fun hc => Qf Qh2 (Qcj (Qaj ht12 hc)) (.cons (.of (.cond z0 hc))<|.cons (.of .k)<|.cons (.of .k)<|.nil))<|.g rfl rfl bq4 (fun hc => Qae (.cond z0 hc))<|.o (Q6 z5 (fun hp => (.cond z0 (beqF hp))))<|.q 0 rfl<|.g rfl rfl bq0 (fun _ => Qe Qed z12)<|.g rfl rfl bq1 (fun hc => Qd (u := (x_).States) Qbx (.cond z0 hc) rfl)<|.g rfl rfl bq2 (fun hc => Qf QqR (Qlf (Qaj ht18 hc)) (.cons (.of (.cond z0 hc))<|.nil))<|.g rfl rfl bq3 (fun hc => Qae (.cond z0 hc))<|.o (Q6 z4 (fun hp => (.cond z0 (beqF hp))))<|.q 0 rfl<|.g rfl rfl bq0 (fun _ => Qe Qcm z18)<|.g rfl rfl bq1 (fun hc => Qd (u := (x_).Moves) Qhc (.cond z0 hc) rfl)<|.g rfl rfl bq2 (fun hc => QE ud79 (.cond z0 hc))<|.g rfl rfl bq3 (fun hc => Qa0 (.cond z0 hc) .k)<|.o (Q6 z4 (fun hp => (.cond z0 (beqF hp))))<|.n) fun _ a w H => ?_
 have H := H.to [22,23] [_,_] [] rfl rfl
 refine wi H h (fun b34 h => ?_) (fun b34 h => ?_)
 ·refine sr mx [] H (fun _ => .o (Qa .k)<|.n) fun _ a w H => ?_
  have H := H.to [0] [_] [] rfl rfl
  refine wp_ret ?_
  obtain rfl := sj h
  exact rt undef [] hpl H (.tmp z0 .nil)
 refine wp_skip (k2 _ _ ?_)
 refine wp_seq_k (fun K5 k5 => ?_)
 refine sr mx [] H (fun _ => .o (Qa .k)<|.n) fun _ a w H => ?_
 have H := H.to [0,2] [_,_] [] rfl rfl
 have ⟨e8,he8,h⟩ := bs h
 have hJp23 : ∀ (p23 : Unit) a w,(.inl p23) = e8 → St M w0 60 [] [] a w → K5 a w := by
  intro p23 a w he H
  subst he
  simp only at h
  refine k5 _ _ ?_
  refine sr mx [] H (fun _ => .o (Qa .k)<|.n) fun _ a w H => ?_
  have H := H.to [0] [_] [] rfl rfl
  refine wp_ret ?_
  obtain rfl := sj h
  exact rt undef [] hpl H (.tmp z0 .nil)
 have hJp24 : ∀ (p24 : Bool) a w,(.inr p24) = e8 → St M w0 60 [(2,tb p24)] [] a w → Ret Tryz.prog Tryz.f113 M0 [] w0 (fun _ => []) (fun _ => tb r) .ret a w := by
  intro p24 a w he H
  subst he
  simp only at h
  obtain rfl := sj h
  exact rt undef [] hpl H (.tmp z0 .nil)
 refine wp_block ?_
 refine QR _ (fun (s7 : Int) a w => St M w0 60 [(3,ti s7),(1,tptr (Qz.cs x_))] [] a w) _ _ he8 (H.pick [0,1]) ?_
 clear h
 intro s7 o a w K26 hI h ho k26
 have H := hI
 clear hI
 refine wp_seq_k (fun _ k27 => ?_)
 refine sr mx [] H (fun _ => .q 0 rfl<|.o (Qe Qcm z2)<|.o (Qd (u := (x_).Moves) Qhc z0 rfl)<|.o (QE ud79 z0)<|.o (QG z3 z0)<|.n) fun _ a w H => ?_
 have H := H.to [4,5,6] [_,_,_] [] rfl rfl
 refine wi H h (fun b33 h => ?_) (fun b33 h => ?_)
 ·refine wp_skip (k27 _ _ ?_)
  refine wp_seq_k (fun _ k29 => ?_)
  refine wp_block ?_
  have ⟨t37,ht37,h⟩ := bs h
  have ⟨t44,ht44,h⟩ := bs h
  have ⟨t50,ht50,h⟩ := bs h
  have ⟨t57,ht57,h⟩ := bs h
  refine sr mx [] H (fun _ => .o (Qe Qcm z2)<|.o (Qd (u := (x_).Moves) Qhc z0 rfl)<|.q 3 rfl<|.o (Qr ud79 Qds z1 z0 ht37)<|.o (QhX 0 rfl ud82 tok3 z0 .k (by decide))<|.o (Qd (u := (t37).a0) tok3 z0 rfl)<|.o (Qe Qed z8)<|.o (Qd (u := (x_).States) Qbx z0 rfl)<|.o (QE ud32 z0)<|.o (QbQ z0 .k)<|.o (Qf Qh2 (Qcj ht44) (.cons (.of z4)<|.cons (.of .k)<|.cons (.of z0)<|.nil))<|.o (Qae z0)<|.q 0 rfl<|.g rfl rfl bq0 (fun _ => Qe Qcm z15)<|.g rfl rfl bq1 (fun hc => Qd (u := (x_).Moves) Qhc (.cond z0 hc) rfl)<|.g rfl rfl bq2 (fun _ => Qq z16)<|.g rfl rfl bq3 (fun hc => Qr ud79 Qds (.cond z1 hc) (.cond z0 hc) (Qaj ht50 hc))<|.g rfl rfl bq4 (fun hc => QhX 1 rfl ud82 tok3 (.cond z0 hc) .k (by decide))<|.g rfl rfl bq5 (fun hc => Qd (u := (t50).a1) tok3 (.cond z0 hc) rfl)<|.g rfl rfl bq6 (fun _ => Qe Qed z21)<|.g rfl rfl bq7 (fun hc => Qd (u := (x_).States) Qbx (.cond z0 hc) rfl)<|.g rfl rfl bq8 (fun hc => QE ud32 (.cond z0 hc))<|.g rfl rfl bq9 (fun hc => QbQ (.cond z0 hc) .k)<|.g rfl rfl (.b 10 rfl) (fun hc => Qf Qh2 (Qcj (Qaj ht57 hc)) (.cons (.of (.cond z4 hc))<|.cons (.of .k)<|.cons (.of (.cond z0 hc))<|.nil))<|.g rfl rfl (.b 11 rfl) (fun hc => Qae (.cond z0 hc))<|.o (Q6 z12 (fun hp => (.cond z0 (beqF hp))))<|.n) fun _ a w H => ?_
  have H := H.to [25,27,28] [_,_,_] [] rfl rfl
  refine wi H h (fun b32 h => ?_) (fun b32 h => ?_)
  ·refine sr mx [] H (fun _ => .o (Qa .k)<|.n) fun _ a w H => ?_
   have H := H.to [0] [_] [] rfl rfl
   refine wp_ret ?_
   exact hJp24 _ _ _ (ho _ (sj h).symm) (H.pick [0])
  refine wp_skip (k29 _ _ ?_)
  refine wr mx [] H (fun _ => .q 1 rfl<|.o (QQ z0 .k)<|.o (Qa z0)<|.n) fun _ a w H => ?_
  have H := H.to [2,4] [_,_] [] rfl rfl
  exact k26 _ _ _ (sj h).symm (H.pick [0,1])
 refine wp_exit ?_
 exact hJp23 _ _ _ (ho _ (sj h).symm) (H.pick [])

/- diorama/dioramaref09.isRule -/
noncomputable def Qgj (r_ : Qn) : Option (Bool) := (opt (((r_).A != ([] : Str)) == true) (Qa8 (r_).A) default).bind fun t9 => (opt (((((r_).A != ([] : Str)) && (!t9)) == false) && (((r_).B != ([] : Str)) == true)) (Qa8 (r_).B) default).bind fun t19 => (if (((((r_).A != ([] : Str)) && (!t9)) || (((r_).B != ([] : Str)) && (!t19))) || (((r_).A == ([] : Str)) && ((r_).B == ([] : Str)))) = true then (some false) else (Qa8 (r_).Name).bind fun t35 => (opt (t35 == true) (Qa8 (r_).Kind) default).bind fun t39 => (opt ((t35 && t39) == true) (QaP (r_).N (-1048576:Int) (1048576:Int)) default).bind fun t44 => (some ((t35 && t39) && t44)))
theorem Qoe {r_ : Qn} {r : Bool} (h : Qgj r_ = some r) : FnOk Tryz.prog 114 [Qt.ty r_] [] (fun _ => []) (fun _ => tb r) := by
 unfold Qgj at h
 refine fe Tryz.func114 Tryz.ntmps114 fun M0 M w0 a hpl H => ?_
 replace H : St M w0 46 [(0,Qt.ty r_)] [] a w0 := H
 refine sr mx [] H (fun _ => .o (QV (R := Qt) (u := r_) z0)<|.o (Qa .k)<|.n) fun _ a w H => ?_
 have H := H.to [0] [_] [] rfl rfl
 refine wp_seq_k (fun _ k2 => ?_)
 have ⟨t9,ht9,h⟩ := bs h
 have ⟨t19,ht19,h⟩ := bs h
 refine sr mx [] H (fun _ => .o (Qe QeW z0)<|.o (Qd (u := (r_).A) tok9 z0 rfl)<|.o (Qeb z0 .k)<|.q 0 rfl<|.g rfl rfl bq0 (fun _ => Qe QeW z4)<|.g rfl rfl bq1 (fun hc => Qd (u := (r_).A) tok9 (.cond z0 hc) rfl)<|.g rfl rfl bq2 (fun hc => Qf Qgx (QbA (Qaj ht9 hc)) (.cons (.of (.cond z0 hc))<|.nil))<|.g rfl rfl bq3 (fun hc => Qae (.cond z0 hc))<|.o (QW z4 (fun hp => (.cond z0 (beqT hp))))<|.q 0 rfl<|.g rfl rfl bq0 (fun _ => Qe QeX z10)<|.g rfl rfl bq1 (fun hc => Qd (u := (r_).B) tok9 (.cond z0 hc) rfl)<|.g rfl rfl bq2 (fun hc => Qeb (.cond z0 hc) .k)<|.g rfl rfl bq3 (fun hc => Qq (.cond z0 hc))<|.g rfl rfl (.c 0 rfl) (fun _ => Qe QeX z14)<|.g rfl rfl (.c 1 rfl) (fun hc => Qd (u := (r_).B) tok9 (.cond z0 hc) rfl)<|.g rfl rfl (.c 2 rfl) (fun hc => Qf Qgx (QbA (Qaj ht19 hc)) (.cons (.of (.cond z0 hc))<|.nil))<|.g rfl rfl (.c 3 rfl) (fun hc => Qae (.cond z0 hc))<|.g rfl rfl bq8 (fun hc => QW (.cond z4 hc) (fun hp => (.cond z0 (Qc8 hc (beqT hp)))))<|.o (Q6 z9 (fun hp => (.cond z0 (beqF hp))))<|.q 0 rfl<|.g rfl rfl bq0 (fun _ => Qe QeW z21)<|.g rfl rfl bq1 (fun hc => Qd (u := (r_).A) tok9 (.cond z0 hc) rfl)<|.g rfl rfl bq2 (fun hc => Qa6 (.cond z0 hc) .k)<|.g rfl rfl bq3 (fun hc => Qq (.cond z0 hc))<|.g rfl rfl (.c 0 rfl) (fun _ => Qe QeX z25)<|.g rfl rfl (.c 1 rfl) (fun hc => Qd (u := (r_).B) tok9 (.cond z0 hc) rfl)<|.g rfl rfl (.c 2 rfl) (fun hc => Qa6 (.cond z0 hc) .k)<|.g rfl rfl bq7 (fun hc => QW (.cond z3 hc) (fun hp => (.cond z0 (Qc8 hc (beqT hp)))))<|.o (Q6 z8 (fun hp => (.cond z0 (beqF hp))))<|.n) fun _ a w H => ?_
 have H := H.to [29,30] [_,_] [] rfl rfl
 refine wi H h (fun b6 h => ?_) (fun b6 h => ?_)
 ·refine sr mx [] H (fun _ => .o (Qa .k)<|.n) fun _ a w H => ?_
  have H := H.to [0] [_] [] rfl rfl
  refine wp_ret ?_
  obtain rfl := sj h
  exact rt undef [] hpl H (.tmp z0 .nil)
 refine wp_skip (k2 _ _ ?_)
 have ⟨t35,ht35,h⟩ := bs h
 have ⟨t39,ht39,h⟩ := bs h
 have ⟨t44,ht44,h⟩ := bs h
 refine sr mx [] H (fun _ => .o (Qe Qh1 z1)<|.o (Qd (u := (r_).Name) tok9 z0 rfl)<|.o (Qf Qgx (QbA ht35) (.cons (.of z0)<|.nil))<|.q 0 rfl<|.g rfl rfl bq0 (fun _ => Qe Qkc z5)<|.g rfl rfl bq1 (fun hc => Qd (u := (r_).Kind) tok9 (.cond z0 hc) rfl)<|.g rfl rfl bq2 (fun hc => Qf Qgx (QbA (Qaj ht39 hc)) (.cons (.of (.cond z0 hc))<|.nil))<|.o (QW z3 (fun hp => (.cond z0 (beqT hp))))<|.q 0 rfl<|.g rfl rfl bq0 (fun _ => Qe QmU z10)<|.g rfl rfl bq1 (fun hc => Qd (u := (r_).N) tok3 (.cond z0 hc) rfl)<|.g rfl rfl bq2 (fun hc => Qf Qh2 (Qcj (Qaj ht44 hc)) (.cons (.of (.cond z0 hc))<|.cons (.of .k)<|.cons (.of .k)<|.nil))<|.o (QW z3 (fun hp => (.cond z0 (beqT hp))))<|.o (Qa z0)<|.n) fun _ a w H => ?_
 have H := H.to [13] [_] [] rfl rfl
 refine wp_ret ?_
 obtain rfl := sj h
 exact rt undef [] hpl H (.tmp z0 .nil)

/- diorama/dioramaref09.Decimal -/
noncomputable def Qc2 (self : Int → Option (Str)) (n_ : Int) : Option (Str) := (if (decide (n_ < (0:Int))) = true then (self (IntKind.i64.wrap (0 - n_))).bind fun t7 => (cat (([45] : Str).length + t7.length)).bind fun _ => (some (([45] : Str) ++ t7)) else (if (decide (n_ < (10:Int))) = true then (some (QjX [(IntKind.u8.wrap (IntKind.i64.wrap ((48:Int) + n_)))])) else (self (IntKind.i64.wrap (Int.tdiv n_ (10:Int)))).bind fun t18 => (cat (t18.length + (QjX [(IntKind.u8.wrap (IntKind.i64.wrap ((48:Int) + (Int.tmod n_ (10:Int)))))]).length)).bind fun _ => (some (t18 ++ (QjX [(IntKind.u8.wrap (IntKind.i64.wrap ((48:Int) + (Int.tmod n_ (10:Int)))))])))))
theorem Qm7 {self : Int → Option (Str)} (hself : ∀ (n_ : Int) (r : Str),self n_ = some r → FnOk Tryz.prog 171 [ti n_] [] (fun _ => []) (fun _ => tv (.string (sB r)))) {n_ : Int} {r : Str} (h : Qc2 self n_ = some r) : FnOk Tryz.prog 171 [ti n_] [] (fun _ => []) (fun _ => tv (.string (sB r))) := by
 unfold Qc2 at h
 refine fe Tryz.func171 Tryz.ntmps171 fun M0 M w0 a hpl H => ?_
 replace H : St M w0 26 [(0,ti n_)] [] a w0 := H
 refine sr mx [] H (fun _ => .o (Qa .k)<|.n) fun _ a w H => ?_
 have H := H.to [1] [_] [] rfl rfl
 refine wp_seq_k (fun _ k2 => ?_)
 refine sr mx [] H (fun _ => .q 0 rfl<|.o (QG z0 .k)<|.n) fun _ a w H => ?_
 have H := H.to [1,2] [_,_] [] rfl rfl
 refine wi H h (fun b10 h => ?_) (fun b10 h => ?_)
 ·refine wp_seq_k (fun _ k4 => ?_)
  have ⟨t7,ht7,h⟩ := bs h
  have ⟨u8,hu8,h⟩ := bs h
  refine wr mx [] H (fun _ => .q 1 rfl<|.o (QpN z0)<|.o (Qf QoF (hself _ _ ht7) (.cons (.of z0)<|.nil))<|.o (Qan .k z0 hu8)<|.o (Qa z0)<|.n) fun _ a w H => ?_
  have H := H.to [4] [_] [] rfl rfl
  refine k4 _ _ ?_
  refine wp_ret ?_
  obtain rfl := sj h
  exact rt undef [] hpl H (.tmp z0 .nil)
 refine wp_skip (k2 _ _ ?_)
 refine wp_seq_k (fun _ k5 => ?_)
 refine sr mx [] H (fun _ => .q 1 rfl<|.o (QG z0 .k)<|.n) fun _ a w H => ?_
 have H := H.to [1,3] [_,_] [] rfl rfl
 refine wi H h (fun b9 h => ?_) (fun b9 h => ?_)
 ·refine sr mx [] H (fun _ => .q 1 rfl<|.o (QQ .k z0)<|.o (Qou ud3 ud5 z0)<|.o (Qy (R := (rInt .u8)) (us := [(IntKind.u8.wrap (IntKind.i64.wrap ((48:Int) + n_)))]) QlE tok5 (.cons z0<|.nil _) rfl (leb rfl))<|.o (QrF QlE ud5 ud9 z0)<|.o (Qa z0)<|.n) fun _ a w H => ?_
  have H := H.to [5] [_] [] rfl rfl
  refine wp_ret ?_
  obtain rfl := sj h
  exact rt undef [] hpl H (.tmp z0 .nil)
 refine wp_skip (k5 _ _ ?_)
 refine wp_seq_k (fun _ k8 => ?_)
 have ⟨t18,ht18,h⟩ := bs h
 have ⟨u25,hu25,h⟩ := bs h
 refine wr mx [] H (fun _ => .q 1 rfl<|.o (Qjt z0 .k (by decide))<|.o (Qf QoF (hself _ _ ht18) (.cons (.of z0)<|.nil))<|.q 4 rfl<|.o (Qrz z0 .k (by decide))<|.o (QQ .k z0)<|.o (Qou ud3 ud5 z0)<|.o (Qy (R := (rInt .u8)) (us := [(IntKind.u8.wrap (IntKind.i64.wrap ((48:Int) + (Int.tmod n_ (10:Int)))))]) QlE tok5 (.cons z0<|.nil _) rfl (leb rfl))<|.o (QrF QlE ud5 ud9 z0)<|.o (Qan z6 z0 hu25)<|.o (Qa z0)<|.n) fun _ a w H => ?_
 have H := H.to [10] [_] [] rfl rfl
 refine k8 _ _ ?_
 refine wp_ret ?_
 obtain rfl := sj h
 exact rt undef [] hpl H (.tmp z0 .nil)
noncomputable def QdJ : Nat → Int → Option (Str)
 | 0 => fun _ => none
 | n + 1 => Qc2 (QdJ n)
theorem QjA : ∀ (n : Nat) (n_ : Int) (r : Str),QdJ n n_ = some r → FnOk Tryz.prog 171 [ti n_] [] (fun _ => []) (fun _ => tv (.string (sB r)))
 | 0,_,r,h => by cases h
 | n + 1,n_,r,h => Qm7 (fun n_ r h => QjA n n_ r h) h
noncomputable def Qhg (n_ : Int) : Option (Str) := QdJ (n_.natAbs + 2) n_
theorem Qnt {n_ : Int} {r : Str} (h : Qhg n_ = some r) : FnOk Tryz.prog 171 [ti n_] [] (fun _ => []) (fun _ => tv (.string (sB r))) := QjA _ _ _ h

/- diorama/dioramaref09.and -/
noncomputable def Qbs (s_ : Str) (n_ : Int) : Option (Str) := (cat (s_.length + ([32] : Str).length)).bind fun _ => (Qhg n_).bind fun t8 => (cat ((s_ ++ ([32] : Str)).length + t8.length)).bind fun _ => (some ((s_ ++ ([32] : Str)) ++ t8))
theorem Qb2 {s_ : Str} {n_ : Int} {r : Str} (h : Qbs s_ n_ = some r) : FnOk Tryz.prog 144 [tv (.string (sB s_)),ti n_] [] (fun _ => []) (fun _ => tv (.string (sB r))) := by
 unfold Qbs at h
 refine fe Tryz.func144 Tryz.ntmps144 fun M0 M w0 a hpl H => ?_
 replace H : St M w0 10 [(0,tv (.string (sB s_))),(1,ti n_)] [] a w0 := H
 refine sr mx [] H (fun _ => .o (Qa .k)<|.n) fun _ a w H => ?_
 have H := H.to [1,2] [_,_] [] rfl rfl
 refine wp_seq_k (fun _ k2 => ?_)
 have ⟨u6,hu6,h⟩ := bs h
 have ⟨t8,ht8,h⟩ := bs h
 have ⟨u9,hu9,h⟩ := bs h
 refine wr mx [] H (fun _ => .q 0 rfl<|.o (Qan z0 .k hu6)<|.q 3 rfl<|.o (Qf QoF (Qnt ht8) (.cons (.of z0)<|.nil))<|.o (Qan z2 z0 hu9)<|.o (Qa z0)<|.n) fun _ a w H => ?_
 have H := H.to [5] [_] [] rfl rfl
 refine k2 _ _ ?_
 refine wp_ret ?_
 obtain rfl := sj h
 exact rt undef [] hpl H (.tmp z0 .nil)

/- diorama/dioramaref09.Words -/
noncomputable def QbG  : Option ((List Str)) := (some [([107,101,121] : Str),([114,101,102] : Str),([110,117,109] : Str),([112,105,99,107] : Str),([100,97,121] : Str),([115,116,101,112] : Str),([115,117,109] : Str),([115,104,97,114,101] : Str),([99,111,112,121] : Str)])
theorem QoL {r : (List Str)} (h : QbG  = some r) : FnOk Tryz.prog 172 [] [] (fun _ => []) (fun _ => tsl rS r) := by
 unfold QbG at h
 refine fe Tryz.func172 Tryz.ntmps172 fun M0 M w0 a hpl H => ?_
 replace H : St M w0 2 [] [] a w0 := H
 refine sr mx [] H (fun _ => .o (Qa (.nilsl (R := rS)))<|.n) fun _ a w H => ?_
 have H := H.to [] [] [] rfl rfl
 refine sr mx [] H (fun _ => .o (Qy (R := rS) (us := [([107,101,121] : Str),([114,101,102] : Str),([110,117,109] : Str),([112,105,99,107] : Str),([100,97,121] : Str),([115,116,101,112] : Str),([115,117,109] : Str),([115,104,97,114,101] : Str),([99,111,112,121] : Str)]) ud32 tok9 (.cons .k<|.cons .k<|.cons .k<|.cons .k<|.cons .k<|.cons .k<|.cons .k<|.cons .k<|.cons .k<|.nil _) rfl (leb rfl))<|.o (Qa z0)<|.n) fun _ a w H => ?_
 have H := H.to [1] [_] [] rfl rfl
 refine wp_ret ?_
 obtain rfl := sj h
 exact rt undef [] hpl H (.tmp z0 .nil)

/- diorama/dioramaref09.named -/
noncomputable def Qeu (s_ : Str) : Option (Str) := (if (s_ == ([] : Str)) = true then (some ([45] : Str)) else (some s_))
theorem QiW {s_ : Str} {r : Str} (h : Qeu s_ = some r) : FnOk Tryz.prog 146 [tv (.string (sB s_))] [] (fun _ => []) (fun _ => tv (.string (sB r))) := by
 unfold Qeu at h
 refine fe Tryz.func146 Tryz.ntmps146 fun M0 M w0 a hpl H => ?_
 replace H : St M w0 6 [(0,tv (.string (sB s_)))] [] a w0 := H
 refine sr mx [] H (fun _ => .o (Qa .k)<|.n) fun _ a w H => ?_
 have H := H.to [1] [_] [] rfl rfl
 refine wp_seq_k (fun _ k2 => ?_)
 refine sr mx [] H (fun _ => .q 0 rfl<|.o (Qa6 z0 .k)<|.n) fun _ a w H => ?_
 have H := H.to [1,2] [_,_] [] rfl rfl
 refine wi H h (fun b6 h => ?_) (fun b6 h => ?_)
 ·refine sr mx [] H (fun _ => .o (Qa .k)<|.n) fun _ a w H => ?_
  have H := H.to [0] [_] [] rfl rfl
  refine wp_ret ?_
  obtain rfl := sj h
  exact rt undef [] hpl H (.tmp z0 .nil)
 refine wp_skip (k2 _ _ ?_)
 refine sr mx [] H (fun _ => .q 1 rfl<|.o (Qa z0)<|.n) fun _ a w H => ?_
 have H := H.to [1] [_] [] rfl rfl
 refine wp_ret ?_
 obtain rfl := sj h
 exact rt undef [] hpl H (.tmp z0 .nil)

/- diorama/dioramaref09.line -/
noncomputable def QaD (f_ : Qc) : Option (Str) := (QbB (f_).Kind).bind fun t13 => (QbG).bind fun t19 => (idx t19 (f_).Kind).bind fun t22 => (cat (([10] : Str).length + t22.length)).bind fun _ => (cat ((([10] : Str) ++ t22).length + ([32] : Str).length)).bind fun _ => (cat (((([10] : Str) ++ t22) ++ ([32] : Str)).length + (f_).Name.length)).bind fun _ => ((if t13.2.1 = true then (cat ((((([10] : Str) ++ t22) ++ ([32] : Str)) ++ (f_).Name).length + ([32] : Str).length)).bind fun _ => (cat (((((([10] : Str) ++ t22) ++ ([32] : Str)) ++ (f_).Name) ++ ([32] : Str)).length + (f_).Up.length)).bind fun _ => (some (((((([10] : Str) ++ t22) ++ ([32] : Str)) ++ (f_).Name) ++ ([32] : Str)) ++ (f_).Up)) else (some (((([10] : Str) ++ t22) ++ ([32] : Str)) ++ (f_).Name)))).bind fun (p6 : Str) => ((if t13.1 = true then (cat (p6.length + ([32] : Str).length)).bind fun _ => (Qeu (f_).Of).bind fun t40 => (cat ((p6 ++ ([32] : Str)).length + t40.length)).bind fun _ => (some ((p6 ++ ([32] : Str)) ++ t40)) else (some p6))).bind fun (p10 : Str) => ((if t13.2.2.1 = true then (Qbs p10 (f_).Lo).bind fun t46 => (some t46) else (some p10))).bind fun (p14 : Str) => ((if t13.2.2.2.1 = true then (Qbs p14 (f_).Hi).bind fun t51 => (some t51) else (some p14))).bind fun (p18 : Str) => ((if t13.2.2.2.2 = true then (Qbs p18 ((f_).Words.length : Int)).bind fun t57 => (QF (fun (s45 : Int × Str) => ((if (decide (s45.1 < ((f_).Words.length : Int))) = true then (cat (s45.2.length + ([32] : Str).length)).bind fun _ => (idx (f_).Words s45.1).bind fun t70 => (cat ((s45.2 ++ ([32] : Str)).length + t70.length)).bind fun _ => (idx (f_).Weights s45.1).bind fun t76 => (Qbs ((s45.2 ++ ([32] : Str)) ++ t70) t76).bind fun t78 => (some (.inl ((IntKind.i64.wrap (s45.1 + (1:Int))),t78))) else (some (.inr s45.2))) : Option ((Int × Str) ⊕ ((Str))))) ((0:Int),t57)).bind fun (p51 : (Str)) => (some p51) else (some p18))).bind fun (p22 : Str) => (some p22)
theorem Qpx {f_ : Qc} {r : Str} (h : QaD f_ = some r) : FnOk Tryz.prog 145 [Qb.ty f_] [] (fun _ => []) (fun _ => tv (.string (sB r))) := by
 unfold QaD at h
 refine fe Tryz.func145 Tryz.ntmps145 fun M0 M w0 a hpl H => ?_
 replace H : St M w0 80 [(0,Qb.ty f_)] [] a w0 := H
 refine sr mx [] H (fun _ => .o (QV (R := Qb) (u := f_) z0)<|.o (Qa .k)<|.n) fun _ a w H => ?_
 have H := H.to [0] [_] [] rfl rfl
 have ⟨t13,ht13,h⟩ := bs h
 refine sr mx [] H (fun _ => .o (Qe Qao z0)<|.o (Qd (u := (f_).Kind) tok3 z0 rfl)<|.o (Qf QqV (Ql0 ht13) (.cons (.of z0)<|.nil))<|.q 0 rfl<|.o (QU z0 rfl)<|.o (QU z1 rfl)<|.o (QU z2 rfl)<|.o (QU z3 rfl)<|.o (QU z4 rfl)<|.o (Qa z4)<|.o (Qa z4)<|.o (Qa z4)<|.o (Qa z4)<|.o (Qa z4)<|.n) fun _ a w H => ?_
 have H := H.to [9,10,11,12,13,14] [_,_,_,_,_,_] [] rfl rfl
 refine wp_seq_k (fun _ k3 => ?_)
 have ⟨t19,ht19,h⟩ := bs h
 have ⟨t22,ht22,h⟩ := bs h
 have ⟨u24,hu24,h⟩ := bs h
 have ⟨u25,hu25,h⟩ := bs h
 have ⟨u28,hu28,h⟩ := bs h
 refine wr mx [] H (fun _ => .o (Qf QuA (QoL ht19) (.nil))<|.o (Qe Qao z6)<|.o (Qd (u := (f_).Kind) tok3 z0 rfl)<|.o (Qr ud32 tok9 z2 z0 ht22)<|.o (Qm tok9 z0)<|.o (Qan .k z0 hu24)<|.o (Qan z0 .k hu25)<|.o (Qe Qbd z12)<|.o (Qd (u := (f_).Name) tok9 z0 rfl)<|.o (Qan z2 z0 hu28)<|.o (Qa z0)<|.n) fun _ a w H => ?_
 have H := H.to [10,11,12,13,14,15,16] [_,_,_,_,_,_,_] [] rfl rfl
 refine k3 _ _ ?_
 refine wp_seq_k (fun K4 k4 => ?_)
 refine sr mx [] H (fun _ => .q 2 rfl<|.n) fun _ a w H => ?_
 have H := H.to [0,1,2,4,5,6,7] [_,_,_,_,_,_,_] [] rfl rfl
 have ⟨p6,hp6,h⟩ := bs h
 have hJp6 : ∀ a w,St M w0 80 [(8,tv (.string (sB p6))),(3,tb t13.1),(5,tb t13.2.2.1),(6,tb t13.2.2.2.1),(7,tb t13.2.2.2.2),(1,tptr (Qb.cs f_))] [] a w → K4 a w := by
  intro a w H
  refine k4 _ _ ?_
  refine wp_seq_k (fun K8 k8 => ?_)
  refine sr mx [] H (fun _ => .q 1 rfl<|.n) fun _ a w H => ?_
  have H := H.to [0,1,3,4,5,6] [_,_,_,_,_,_] [] rfl rfl
  have ⟨p10,hp10,h⟩ := bs h
  have hJp10 : ∀ a w,St M w0 80 [(8,tv (.string (sB p10))),(5,tb t13.2.2.1),(6,tb t13.2.2.2.1),(7,tb t13.2.2.2.2),(1,tptr (Qb.cs f_))] [] a w → K8 a w := by
   intro a w H
   refine k8 _ _ ?_
   refine wp_seq_k (fun K12 k12 => ?_)
   refine sr mx [] H (fun _ => .q 1 rfl<|.n) fun _ a w H => ?_
   have H := H.to [0,1,3,4,5] [_,_,_,_,_] [] rfl rfl
   have ⟨p14,hp14,h⟩ := bs h
   have hJp14 : ∀ a w,St M w0 80 [(8,tv (.string (sB p14))),(6,tb t13.2.2.2.1),(7,tb t13.2.2.2.2),(1,tptr (Qb.cs f_))] [] a w → K12 a w := by
    intro a w H
    refine k12 _ _ ?_
    refine wp_seq_k (fun K16 k16 => ?_)
    refine sr mx [] H (fun _ => .q 1 rfl<|.n) fun _ a w H => ?_
    have H := H.to [0,1,3,4] [_,_,_,_] [] rfl rfl
    have ⟨p18,hp18,h⟩ := bs h
    have hJp18 : ∀ a w,St M w0 80 [(8,tv (.string (sB p18))),(7,tb t13.2.2.2.2),(1,tptr (Qb.cs f_))] [] a w → K16 a w := by
     intro a w H
     refine k16 _ _ ?_
     refine wp_seq_k (fun K20 k20 => ?_)
     refine sr mx [] H (fun _ => .q 1 rfl<|.n) fun _ a w H => ?_
     have H := H.to [0,1,3] [_,_,_] [] rfl rfl
     have ⟨p22,hp22,h⟩ := bs h
     have hJp22 : ∀ a w,St M w0 80 [(8,tv (.string (sB p22)))] [] a w → K20 a w := by
      intro a w H
      refine k20 _ _ ?_
      refine sr mx [] H (fun _ => .q 0 rfl<|.o (Qa z0)<|.n) fun _ a w H => ?_
      have H := H.to [1] [_] [] rfl rfl
      refine wp_ret ?_
      obtain rfl := sj h
      exact rt undef [] hpl H (.tmp z0 .nil)
     replace h := hp22
     clear hp22
     refine wi H h (fun b57 h => ?_) (fun b57 h => ?_)
     ·have ⟨t57,ht57,h⟩ := bs h
      refine sr mx [] H (fun _ => .q 1 rfl<|.o (Qe QcM z3)<|.o (Qd (u := (f_).Words) Qbx z0 rfl)<|.o (QE ud32 z0)<|.o (Qf Qft (Qb2 ht57) (.cons (.of z3)<|.cons (.of z0)<|.nil))<|.o (Qa z0)<|.n) fun _ a w H => ?_
      have H := H.to [5,7] [_,_] [] rfl rfl
      refine sr mx [] H (fun _ => .o (Qa .k)<|.n) fun _ a w H => ?_
      have H := H.to [0,1,2] [_,_,_] [] rfl rfl
      have ⟨e46,he46,h⟩ := bs h
      have hJp51 : ∀ (p51 : Str) a w,p51 = e46 → St M w0 80 [(8,tv (.string (sB p51)))] [] a w → K20 a w := by
       intro p51 a w he H
       subst he
       obtain rfl := sj h
       exact hJp22 _ _ (H.pick [0])
      refine wp_block ?_
      refine QR _ (fun (s45 : Int × Str) a w => St M w0 80 [(9,ti s45.1),(8,tv (.string (sB s45.2))),(1,tptr (Qb.cs f_))] [] a w) _ _ he46 (H.pick [0,1,2]) ?_
      clear h
      intro s45 o a w K52 hI h ho k52
      have H := hI
      clear hI
      refine wp_seq_k (fun _ k53 => ?_)
      refine sr mx [] H (fun _ => .q 0 rfl<|.o (Qe QcM z3)<|.o (Qd (u := (f_).Words) Qbx z0 rfl)<|.o (QE ud32 z0)<|.o (QG z3 z0)<|.n) fun _ a w H => ?_
      have H := H.to [4,5,6,7] [_,_,_,_] [] rfl rfl
      refine wi H h (fun b56 h => ?_) (fun b56 h => ?_)
      ·refine wp_skip (k53 _ _ ?_)
       refine wp_seq_k (fun _ k55 => ?_)
       refine wp_block ?_
       have ⟨u66,hu66,h⟩ := bs h
       have ⟨t70,ht70,h⟩ := bs h
       have ⟨u72,hu72,h⟩ := bs h
       have ⟨t76,ht76,h⟩ := bs h
       have ⟨t78,ht78,h⟩ := bs h
       refine wr mx [] H (fun _ => .q 2 rfl<|.o (Qan z0 .k hu66)<|.o (Qe QcM z5)<|.o (Qd (u := (f_).Words) Qbx z0 rfl)<|.q 5 rfl<|.o (Qr ud32 tok9 z1 z0 ht70)<|.o (Qm tok9 z0)<|.o (Qan z5 z0 hu72)<|.o (Qe Qcl z11)<|.o (Qd (u := (f_).Weights) Qdc z0 rfl)<|.q 11 rfl<|.o (Qr ud22 tok3 z1 z0 ht76)<|.o (Qm tok3 z0)<|.o (Qf Qft (Qb2 ht78) (.cons (.of z5)<|.cons (.of z0)<|.nil))<|.o (Qa z0)<|.n) fun _ a w H => ?_
       have H := H.to [14,16,17] [_,_,_] [] rfl rfl
       refine k55 _ _ ?_
       refine wr mx [] H (fun _ => .q 1 rfl<|.o (QQ z0 .k)<|.o (Qa z0)<|.n) fun _ a w H => ?_
       have H := H.to [2,3,4] [_,_,_] [] rfl rfl
       exact k52 _ _ _ (sj h).symm (H.pick [0,1,2])
      refine wp_exit ?_
      exact hJp51 _ _ _ (ho _ (sj h).symm) (H.pick [2])
     refine wp_skip ?_
     obtain rfl := sj h
     exact hJp22 _ _ (H.pick [1])
    replace h := hp18
    clear hp18
    refine wi H h (fun b58 h => ?_) (fun b58 h => ?_)
    ·have ⟨t51,ht51,h⟩ := bs h
     refine wr mx [] H (fun _ => .q 1 rfl<|.o (Qe QaV z4)<|.o (Qd (u := (f_).Hi) tok3 z0 rfl)<|.o (Qf Qft (Qb2 ht51) (.cons (.of z2)<|.cons (.of z0)<|.nil))<|.o (Qa z0)<|.n) fun _ a w H => ?_
     have H := H.to [4,6,7] [_,_,_] [] rfl rfl
     obtain rfl := sj h
     exact hJp18 _ _ (H.pick [0,1,2])
    refine wp_skip ?_
    obtain rfl := sj h
    exact hJp18 _ _ (H.pick [1,2,3])
   replace h := hp14
   clear hp14
   refine wi H h (fun b59 h => ?_) (fun b59 h => ?_)
   ·have ⟨t46,ht46,h⟩ := bs h
    refine wr mx [] H (fun _ => .q 1 rfl<|.o (Qe QaE z5)<|.o (Qd (u := (f_).Lo) tok3 z0 rfl)<|.o (Qf Qft (Qb2 ht46) (.cons (.of z2)<|.cons (.of z0)<|.nil))<|.o (Qa z0)<|.n) fun _ a w H => ?_
    have H := H.to [4,6,7,8] [_,_,_,_] [] rfl rfl
    obtain rfl := sj h
    exact hJp14 _ _ (H.pick [0,1,2,3])
   refine wp_skip ?_
   obtain rfl := sj h
   exact hJp14 _ _ (H.pick [1,2,3,4])
  replace h := hp10
  clear hp10
  refine wi H h (fun b60 h => ?_) (fun b60 h => ?_)
  ·have ⟨u37,hu37,h⟩ := bs h
   have ⟨t40,ht40,h⟩ := bs h
   have ⟨u41,hu41,h⟩ := bs h
   refine wr mx [] H (fun _ => .q 1 rfl<|.o (Qan z0 .k hu37)<|.o (Qe Qas z7)<|.o (Qd (u := (f_).Of) tok9 z0 rfl)<|.o (Qf QoE (QiW ht40) (.cons (.of z0)<|.nil))<|.o (Qan z3 z0 hu41)<|.o (Qa z0)<|.n) fun _ a w H => ?_
   have H := H.to [6,8,9,10,11] [_,_,_,_,_] [] rfl rfl
   obtain rfl := sj h
   exact hJp10 _ _ (H.pick [0,1,2,3,4])
  refine wp_skip ?_
  obtain rfl := sj h
  exact hJp10 _ _ (H.pick [1,2,3,4,5])
 replace h := hp6
 clear hp6
 refine wi H h (fun b61 h => ?_) (fun b61 h => ?_)
 ·have ⟨u31,hu31,h⟩ := bs h
  have ⟨u34,hu34,h⟩ := bs h
  refine wr mx [] H (fun _ => .q 1 rfl<|.o (Qan z0 .k hu31)<|.o (Qe Qda z8)<|.o (Qd (u := (f_).Up) tok9 z0 rfl)<|.o (Qan z2 z0 hu34)<|.o (Qa z0)<|.n) fun _ a w H => ?_
  have H := H.to [5,7,8,9,10,11] [_,_,_,_,_,_] [] rfl rfl
  obtain rfl := sj h
  exact hJp6 _ _ (H.pick [0,1,2,3,4,5])
 refine wp_skip ?_
 obtain rfl := sj h
 exact hJp6 _ _ (H.pick [1,2,3,4,5,6])

/- diorama/dioramaref09.Source -/
noncomputable def Qgk (x_ : Qh) : Option (Str) := (Qbs ([115,99,104,101,109,97] : Str) (x_).Version).bind fun t15 => (QF (fun (s5 : Int × Str) => ((if (decide (s5.1 < ((x_).Kinds.length : Int))) = true then (idx (x_).Kinds s5.1).bind fun t26 => (cat (s5.2.length + ([10,107,105,110,100,32] : Str).length)).bind fun _ => (cat ((s5.2 ++ ([10,107,105,110,100,32] : Str)).length + (t26).Name.length)).bind fun _ => (Qbs ((s5.2 ++ ([10,107,105,110,100,32] : Str)) ++ (t26).Name) (t26).Lo).bind fun t35 => (Qbs t35 (t26).Hi).bind fun t38 => (QF (fun (s201 : Int × Str) => ((if (decide (s201.1 < ((t26).Fields.length : Int))) = true then (idx (t26).Fields s201.1).bind fun t50 => (QaD t50).bind fun t52 => (cat (s201.2.length + t52.length)).bind fun _ => (some (.inl ((IntKind.i64.wrap (s201.1 + (1:Int))),(s201.2 ++ t52)))) else (some (.inr s201.2))) : Option ((Int × Str) ⊕ ((Str))))) ((0:Int),t38)).bind fun (p207 : (Str)) => (some (.inl ((IntKind.i64.wrap (s5.1 + (1:Int))),p207))) else (some (.inr s5.2))) : Option ((Int × Str) ⊕ ((Str))))) ((0:Int),t15)).bind fun (p51 : (Str)) => (QF (fun (s54 : Int × Str) => ((if (decide (s54.1 < ((x_).Lives.length : Int))) = true then (idx (x_).Lives s54.1).bind fun t64 => (cat (s54.2.length + ([10,108,105,102,101,32] : Str).length)).bind fun _ => (cat ((s54.2 ++ ([10,108,105,102,101,32] : Str)).length + (t64).Name.length)).bind fun _ => (Qbs ((s54.2 ++ ([10,108,105,102,101,32] : Str)) ++ (t64).Name) ((t64).States.length : Int)).bind fun t74 => (QF (fun (s167 : Int × Str) => ((if (decide (s167.1 < ((t64).States.length : Int))) = true then (cat (s167.2.length + ([32] : Str).length)).bind fun _ => (idx (t64).States s167.1).bind fun t87 => (cat ((s167.2 ++ ([32] : Str)).length + t87.length)).bind fun _ => (some (.inl ((IntKind.i64.wrap (s167.1 + (1:Int))),((s167.2 ++ ([32] : Str)) ++ t87)))) else (some (.inr s167.2))) : Option ((Int × Str) ⊕ ((Str))))) ((0:Int),t74)).bind fun (p173 : (Str)) => (QF (fun (s175 : Int × Str) => ((if (decide (s175.1 < ((t64).Moves.length : Int))) = true then (cat (s175.2.length + ([10,109,111,118,101] : Str).length)).bind fun _ => (idx (t64).Moves s175.1).bind fun t102 => (Qbs (s175.2 ++ ([10,109,111,118,101] : Str)) (t102).a0).bind fun t105 => (idx (t64).Moves s175.1).bind fun t109 => (Qbs t105 (t109).a1).bind fun t112 => (some (.inl ((IntKind.i64.wrap (s175.1 + (1:Int))),t112))) else (some (.inr s175.2))) : Option ((Int × Str) ⊕ ((Str))))) ((0:Int),p173)).bind fun (p181 : (Str)) => (some (.inl ((IntKind.i64.wrap (s54.1 + (1:Int))),p181))) else (some (.inr s54.2))) : Option ((Int × Str) ⊕ ((Str))))) ((0:Int),p51)).bind fun (p132 : (Str)) => (QF (fun (s135 : Int × Str) => ((if (decide (s135.1 < ((x_).Rules.length : Int))) = true then (idx (x_).Rules s135.1).bind fun t123 => (cat (s135.2.length + ([10,114,117,108,101,32] : Str).length)).bind fun _ => (cat ((s135.2 ++ ([10,114,117,108,101,32] : Str)).length + (t123).Name.length)).bind fun _ => (cat (((s135.2 ++ ([10,114,117,108,101,32] : Str)) ++ (t123).Name).length + ([32] : Str).length)).bind fun _ => (cat ((((s135.2 ++ ([10,114,117,108,101,32] : Str)) ++ (t123).Name) ++ ([32] : Str)).length + (t123).Kind.length)).bind fun _ => (cat (((((s135.2 ++ ([10,114,117,108,101,32] : Str)) ++ (t123).Name) ++ ([32] : Str)) ++ (t123).Kind).length + ([32] : Str).length)).bind fun _ => (Qeu (t123).A).bind fun t137 => (cat ((((((s135.2 ++ ([10,114,117,108,101,32] : Str)) ++ (t123).Name) ++ ([32] : Str)) ++ (t123).Kind) ++ ([32] : Str)).length + t137.length)).bind fun _ => (cat (((((((s135.2 ++ ([10,114,117,108,101,32] : Str)) ++ (t123).Name) ++ ([32] : Str)) ++ (t123).Kind) ++ ([32] : Str)) ++ t137).length + ([32] : Str).length)).bind fun _ => (Qeu (t123).B).bind fun t142 => (cat ((((((((s135.2 ++ ([10,114,117,108,101,32] : Str)) ++ (t123).Name) ++ ([32] : Str)) ++ (t123).Kind) ++ ([32] : Str)) ++ t137) ++ ([32] : Str)).length + t142.length)).bind fun _ => (Qbs ((((((((s135.2 ++ ([10,114,117,108,101,32] : Str)) ++ (t123).Name) ++ ([32] : Str)) ++ (t123).Kind) ++ ([32] : Str)) ++ t137) ++ ([32] : Str)) ++ t142) (t123).N).bind fun t146 => (some (.inl ((IntKind.i64.wrap (s135.1 + (1:Int))),t146))) else (some (.inr s135.2))) : Option ((Int × Str) ⊕ ((Str))))) ((0:Int),p132)).bind fun (p149 : (Str)) => (cat (p149.length + ([10] : Str).length)).bind fun _ => (some (p149 ++ ([10] : Str)))
theorem Qof {x_ : Qh} {r : Str} (h : Qgk x_ = some r) : FnOk Tryz.prog 115 [Qg.ty x_] [] (fun _ => []) (fun _ => tv (.string (sB r))) := by
 unfold Qgk at h
 refine fe Tryz.func115 Tryz.ntmps115 fun M0 M w0 a hpl H => ?_
 replace H : St M w0 149 [(0,Qg.ty x_)] [] a w0 := H
 refine sr mx [] H (fun _ => .o (QV (R := Qg) (u := x_) z0)<|.o (Qa .k)<|.n) fun _ a w H => ?_
 have H := H.to [0] [_] [] rfl rfl
 have ⟨t15,ht15,h⟩ := bs h
 refine sr mx [] H (fun _ => .o (Qe Qkb z0)<|.o (Qd (u := (x_).Version) tok3 z0 rfl)<|.o (Qf Qft (Qb2 ht15) (.cons (.of .k)<|.cons (.of z0)<|.nil))<|.o (Qa z0)<|.n) fun _ a w H => ?_
 have H := H.to [3,4] [_,_] [] rfl rfl
 refine wp_seq_k (fun K3 k3 => ?_)
 refine sr mx [] H (fun _ => .o (Qa .k)<|.n) fun _ a w H => ?_
 have H := H.to [0,1,2] [_,_,_] [] rfl rfl
 have ⟨e6,he6,h⟩ := bs h
 have hJp51 : ∀ (p51 : Str) a w,p51 = e6 → St M w0 149 [(3,tv (.string (sB p51))),(1,tptr (Qg.cs x_))] [] a w → K3 a w := by
  intro p51 a w he H
  subst he
  refine k3 _ _ ?_
  refine wp_seq_k (fun K52 k52 => ?_)
  refine sr mx [] H (fun _ => .o (Qa .k)<|.n) fun _ a w H => ?_
  have H := H.to [0,1,2] [_,_,_] [] rfl rfl
  have ⟨e55,he55,h⟩ := bs h
  have hJp132 : ∀ (p132 : Str) a w,p132 = e55 → St M w0 149 [(3,tv (.string (sB p132))),(1,tptr (Qg.cs x_))] [] a w → K52 a w := by
   intro p132 a w he H
   subst he
   refine k52 _ _ ?_
   refine wp_seq_k (fun K133 k133 => ?_)
   refine sr mx [] H (fun _ => .o (Qa .k)<|.n) fun _ a w H => ?_
   have H := H.to [0,1,2] [_,_,_] [] rfl rfl
   have ⟨e136,he136,h⟩ := bs h
   have hJp149 : ∀ (p149 : Str) a w,p149 = e136 → St M w0 149 [(3,tv (.string (sB p149)))] [] a w → K133 a w := by
    intro p149 a w he H
    subst he
    refine k133 _ _ ?_
    refine wp_seq_k (fun _ k150 => ?_)
    have ⟨u148,hu148,h⟩ := bs h
    refine wr mx [] H (fun _ => .q 0 rfl<|.o (Qan z0 .k hu148)<|.o (Qa z0)<|.n) fun _ a w H => ?_
    have H := H.to [2] [_] [] rfl rfl
    refine k150 _ _ ?_
    refine wp_ret ?_
    obtain rfl := sj h
    exact rt undef [] hpl H (.tmp z0 .nil)
   refine wp_block ?_
   refine QR _ (fun (s135 : Int × Str) a w => St M w0 149 [(11,ti s135.1),(3,tv (.string (sB s135.2))),(1,tptr (Qg.cs x_))] [] a w) _ _ he136 (H.pick [0,1,2]) ?_
   clear h
   intro s135 o a w K151 hI h ho k151
   have H := hI
   clear hI
   refine wp_seq_k (fun _ k152 => ?_)
   refine sr mx [] H (fun _ => .q 0 rfl<|.o (Qe QbH z3)<|.o (Qd (u := (x_).Rules) Qfp z0 rfl)<|.o (QE ud25 z0)<|.o (QG z3 z0)<|.n) fun _ a w H => ?_
   have H := H.to [4,5,6,7] [_,_,_,_] [] rfl rfl
   refine wi H h (fun b157 h => ?_) (fun b157 h => ?_)
   ·refine wp_skip (k152 _ _ ?_)
    refine wp_seq_k (fun _ k154 => ?_)
    refine wp_block ?_
    have ⟨t123,ht123,h⟩ := bs h
    refine sr mx [v1 5 (fun v0 => box (Qt.cs zz3) v0),v1 5 (fun v0 => box (Qt.cs t123) v0)] H (fun _ => .o (Qe QbH z3)<|.o (Qd (u := (x_).Rules) Qfp z0 rfl)<|.q 3 rfl<|.o (Qr ud25 QaU z1 z0 ht123)<|.o (Qm QaU z0)<|.m [] [0] rfl rfl rfl (Q0 (R := Qt) (a := zz3) QaU QmS)<|.e [] [0] [1] rfl rfl rfl rfl (QS (R := Qt) (a := t123) QaU z0 z1 (leb rfl))<|.n) fun _ a w H => ?_
    replace H : St _ _ _ [_,_,_,_] [] _ _ := (((H.pick [5,7,8,9]).shareB 0 rfl).add 0 rfl (fun _ _ _ h => h.2)).pick [0,3,4,5]
    have ⟨u126,hu126,h⟩ := bs h
    have ⟨u129,hu129,h⟩ := bs h
    have ⟨u130,hu130,h⟩ := bs h
    have ⟨u133,hu133,h⟩ := bs h
    have ⟨u134,hu134,h⟩ := bs h
    have ⟨t137,ht137,h⟩ := bs h
    have ⟨u138,hu138,h⟩ := bs h
    have ⟨u139,hu139,h⟩ := bs h
    have ⟨t142,ht142,h⟩ := bs h
    have ⟨u143,hu143,h⟩ := bs h
    have ⟨t146,ht146,h⟩ := bs h
    refine wr mx [] H (fun _ => .q 2 rfl<|.o (Qan z0 .k hu126)<|.o (Qe Qh1 z2)<|.o (Qd (u := (t123).Name) tok9 z0 rfl)<|.o (Qan z2 z0 hu129)<|.o (Qan z0 .k hu130)<|.o (Qe Qkc z6)<|.o (Qd (u := (t123).Kind) tok9 z0 rfl)<|.o (Qan z2 z0 hu133)<|.o (Qan z0 .k hu134)<|.o (Qe QeW z10)<|.o (Qd (u := (t123).A) tok9 z0 rfl)<|.o (Qf QoE (QiW ht137) (.cons (.of z0)<|.nil))<|.o (Qan z3 z0 hu138)<|.o (Qan z0 .k hu139)<|.o (Qe QeX z15)<|.o (Qd (u := (t123).B) tok9 z0 rfl)<|.o (Qf QoE (QiW ht142) (.cons (.of z0)<|.nil))<|.o (Qan z3 z0 hu143)<|.o (Qe QmU z19)<|.o (Qd (u := (t123).N) tok3 z0 rfl)<|.o (Qf Qft (Qb2 ht146) (.cons (.of z2)<|.cons (.of z0)<|.nil))<|.o (Qa z0)<|.n) fun _ a w H => ?_
    have H := H.to [22,24,25] [_,_,_] [] rfl rfl
    refine k154 _ _ ?_
    refine wr mx [] H (fun _ => .q 1 rfl<|.o (QQ z0 .k)<|.o (Qa z0)<|.n) fun _ a w H => ?_
    have H := H.to [2,3,4] [_,_,_] [] rfl rfl
    exact k151 _ _ _ (sj h).symm (H.pick [0,1,2])
   refine wp_exit ?_
   exact hJp149 _ _ _ (ho _ (sj h).symm) (H.pick [2])
  refine wp_block ?_
  refine QR _ (fun (s54 : Int × Str) a w => St M w0 149 [(7,ti s54.1),(3,tv (.string (sB s54.2))),(1,tptr (Qg.cs x_))] [] a w) _ _ he55 (H.pick [0,1,2]) ?_
  clear h
  intro s54 o a w K158 hI h ho k158
  have H := hI
  clear hI
  refine wp_seq_k (fun _ k159 => ?_)
  refine sr mx [] H (fun _ => .q 0 rfl<|.o (Qe Qbc z3)<|.o (Qd (u := (x_).Lives) QeH z0 rfl)<|.o (QE ud24 z0)<|.o (QG z3 z0)<|.n) fun _ a w H => ?_
  have H := H.to [4,5,6,7] [_,_,_,_] [] rfl rfl
  refine wi H h (fun b192 h => ?_) (fun b192 h => ?_)
  ·refine wp_skip (k159 _ _ ?_)
   refine wp_seq_k (fun K161 k161 => ?_)
   refine wp_block ?_
   have ⟨t64,ht64,h⟩ := bs h
   refine sr mx [v1 5 (fun v0 => box (Qz.cs zz2) v0),v1 5 (fun v0 => box (Qz.cs t64) v0)] H (fun _ => .o (Qe Qbc z3)<|.o (Qd (u := (x_).Lives) QeH z0 rfl)<|.q 3 rfl<|.o (Qr ud24 Qby z1 z0 ht64)<|.o (Qm Qby z0)<|.m [] [0] rfl rfl rfl (Q0 (R := Qz) (a := zz2) Qby QpE)<|.e [] [0] [1] rfl rfl rfl rfl (QS (R := Qz) (a := t64) Qby z0 z1 (leb rfl))<|.n) fun _ a w H => ?_
   replace H : St _ _ _ [_,_,_,_] [] _ _ := (((H.pick [5,7,8,9]).shareB 0 rfl).add 0 rfl (fun _ _ _ h => h.2)).pick [0,3,4,5]
   refine wp_seq_k (fun _ k164 => ?_)
   have ⟨u67,hu67,h⟩ := bs h
   have ⟨u70,hu70,h⟩ := bs h
   have ⟨t74,ht74,h⟩ := bs h
   refine wr mx [] H (fun _ => .q 2 rfl<|.o (Qan z0 .k hu67)<|.o (Qe Qgw z2)<|.o (Qd (u := (t64).Name) tok9 z0 rfl)<|.o (Qan z2 z0 hu70)<|.o (Qe Qed z5)<|.o (Qd (u := (t64).States) Qbx z0 rfl)<|.o (QE ud32 z0)<|.o (Qf Qft (Qb2 ht74) (.cons (.of z3)<|.cons (.of z0)<|.nil))<|.o (Qa z0)<|.n) fun _ a w H => ?_
   have H := H.to [9,10,11,12] [_,_,_,_] [] rfl rfl
   refine k164 _ _ ?_
   refine wp_seq_k (fun K165 k165 => ?_)
   refine sr mx [] H (fun _ => .o (Qa .k)<|.n) fun _ a w H => ?_
   have H := H.to [0,1,2,3,4] [_,_,_,_,_] [] rfl rfl
   have ⟨e168,he168,h⟩ := bs h
   have hJp173 : ∀ (p173 : Str) a w,p173 = e168 → St M w0 149 [(3,tv (.string (sB p173))),(8,tptr (Qz.cs t64)),(7,ti s54.1),(1,tptr (Qg.cs x_))] [] a w → K165 a w := by
    intro p173 a w he H
    subst he
    refine k165 _ _ ?_
    refine sr mx [] H (fun _ => .o (Qa .k)<|.n) fun _ a w H => ?_
    have H := H.to [0,1,2,3,4] [_,_,_,_,_] [] rfl rfl
    have ⟨e176,he176,h⟩ := bs h
    have hJp181 : ∀ (p181 : Str) a w,p181 = e176 → St M w0 149 [(3,tv (.string (sB p181))),(7,ti s54.1),(1,tptr (Qg.cs x_))] [] a w → K161 a w := by
     intro p181 a w he H
     subst he
     refine k161 _ _ ?_
     refine wr mx [] H (fun _ => .q 1 rfl<|.o (QQ z0 .k)<|.o (Qa z0)<|.n) fun _ a w H => ?_
     have H := H.to [2,3,4] [_,_,_] [] rfl rfl
     exact k158 _ _ _ (sj h).symm (H.pick [0,1,2])
    refine wp_block ?_
    refine QR _ (fun (s175 : Int × Str) a w => St M w0 149 [(10,ti s175.1),(3,tv (.string (sB s175.2))),(8,tptr (Qz.cs t64)),(7,ti s54.1),(1,tptr (Qg.cs x_))] [] a w) _ _ he176 (H.pick [0,1,2,3,4]) ?_
    clear h
    intro s175 o a w K182 hI h ho k182
    have H := hI
    clear hI
    refine wp_seq_k (fun _ k183 => ?_)
    refine sr mx [] H (fun _ => .q 0 rfl<|.o (Qe Qcm z3)<|.o (Qd (u := (t64).Moves) Qhc z0 rfl)<|.o (QE ud79 z0)<|.o (QG z3 z0)<|.n) fun _ a w H => ?_
    have H := H.to [4,5,6,7,8,9] [_,_,_,_,_,_] [] rfl rfl
    refine wi H h (fun b186 h => ?_) (fun b186 h => ?_)
    ·refine wp_skip (k183 _ _ ?_)
     refine wp_seq_k (fun _ k185 => ?_)
     refine wp_block ?_
     have ⟨u98,hu98,h⟩ := bs h
     have ⟨t102,ht102,h⟩ := bs h
     have ⟨t105,ht105,h⟩ := bs h
     have ⟨t109,ht109,h⟩ := bs h
     have ⟨t112,ht112,h⟩ := bs h
     refine wr mx [] H (fun _ => .q 2 rfl<|.o (Qan z0 .k hu98)<|.o (Qe Qcm z5)<|.o (Qd (u := (t64).Moves) Qhc z0 rfl)<|.q 5 rfl<|.o (Qr ud79 Qds z1 z0 ht102)<|.o (QhX 0 rfl ud82 tok3 z0 .k (by decide))<|.o (Qd (u := (t102).a0) tok3 z0 rfl)<|.o (Qf Qft (Qb2 ht105) (.cons (.of z6)<|.cons (.of z0)<|.nil))<|.o (Qe Qcm z12)<|.o (Qd (u := (t64).Moves) Qhc z0 rfl)<|.q 12 rfl<|.o (Qr ud79 Qds z1 z0 ht109)<|.o (QhX 1 rfl ud82 tok3 z0 .k (by decide))<|.o (Qd (u := (t109).a1) tok3 z0 rfl)<|.o (Qf Qft (Qb2 ht112) (.cons (.of z6)<|.cons (.of z0)<|.nil))<|.o (Qa z0)<|.n) fun _ a w H => ?_
     have H := H.to [16,18,19,20,21] [_,_,_,_,_] [] rfl rfl
     refine k185 _ _ ?_
     refine wr mx [] H (fun _ => .q 1 rfl<|.o (QQ z0 .k)<|.o (Qa z0)<|.n) fun _ a w H => ?_
     have H := H.to [2,3,4,5,6] [_,_,_,_,_] [] rfl rfl
     exact k182 _ _ _ (sj h).symm (H.pick [0,1,2,3,4])
    refine wp_exit ?_
    exact hJp181 _ _ _ (ho _ (sj h).symm) (H.pick [2,4,5])
   refine wp_block ?_
   refine QR _ (fun (s167 : Int × Str) a w => St M w0 149 [(9,ti s167.1),(3,tv (.string (sB s167.2))),(8,tptr (Qz.cs t64)),(7,ti s54.1),(1,tptr (Qg.cs x_))] [] a w) _ _ he168 (H.pick [0,1,2,3,4]) ?_
   clear h
   intro s167 o a w K187 hI h ho k187
   have H := hI
   clear hI
   refine wp_seq_k (fun _ k188 => ?_)
   refine sr mx [] H (fun _ => .q 0 rfl<|.o (Qe Qed z3)<|.o (Qd (u := (t64).States) Qbx z0 rfl)<|.o (QE ud32 z0)<|.o (QG z3 z0)<|.n) fun _ a w H => ?_
   have H := H.to [4,5,6,7,8,9] [_,_,_,_,_,_] [] rfl rfl
   refine wi H h (fun b191 h => ?_) (fun b191 h => ?_)
   ·refine wp_skip (k188 _ _ ?_)
    refine wp_seq_k (fun _ k190 => ?_)
    refine wp_block ?_
    have ⟨u83,hu83,h⟩ := bs h
    have ⟨t87,ht87,h⟩ := bs h
    have ⟨u89,hu89,h⟩ := bs h
    refine wr mx [] H (fun _ => .q 2 rfl<|.o (Qan z0 .k hu83)<|.o (Qe Qed z5)<|.o (Qd (u := (t64).States) Qbx z0 rfl)<|.q 5 rfl<|.o (Qr ud32 tok9 z1 z0 ht87)<|.o (Qm tok9 z0)<|.o (Qan z5 z0 hu89)<|.o (Qa z0)<|.n) fun _ a w H => ?_
    have H := H.to [8,10,11,12,13] [_,_,_,_,_] [] rfl rfl
    refine k190 _ _ ?_
    refine wr mx [] H (fun _ => .q 1 rfl<|.o (QQ z0 .k)<|.o (Qa z0)<|.n) fun _ a w H => ?_
    have H := H.to [2,3,4,5,6] [_,_,_,_,_] [] rfl rfl
    exact k187 _ _ _ (sj h).symm (H.pick [0,1,2,3,4])
   refine wp_exit ?_
   exact hJp173 _ _ _ (ho _ (sj h).symm) (H.pick [2,3,4,5])
  refine wp_exit ?_
  exact hJp132 _ _ _ (ho _ (sj h).symm) (H.pick [2,3])
 refine wp_block ?_
 refine QR _ (fun (s5 : Int × Str) a w => St M w0 149 [(4,ti s5.1),(3,tv (.string (sB s5.2))),(1,tptr (Qg.cs x_))] [] a w) _ _ he6 (H.pick [0,1,2]) ?_
 clear h
 intro s5 o a w K193 hI h ho k193
 have H := hI
 clear hI
 refine wp_seq_k (fun _ k194 => ?_)
 refine sr mx [] H (fun _ => .q 0 rfl<|.o (Qe Q9 z3)<|.o (Qd (u := (x_).Kinds) QaF z0 rfl)<|.o (QE ud23 z0)<|.o (QG z3 z0)<|.n) fun _ a w H => ?_
 have H := H.to [4,5,6,7] [_,_,_,_] [] rfl rfl
 refine wi H h (fun b213 h => ?_) (fun b213 h => ?_)
 ·refine wp_skip (k194 _ _ ?_)
  refine wp_seq_k (fun K196 k196 => ?_)
  refine wp_block ?_
  have ⟨t26,ht26,h⟩ := bs h
  refine sr mx [v1 5 (fun v0 => box (Qk.cs zz1) v0),v1 5 (fun v0 => box (Qk.cs t26) v0)] H (fun _ => .o (Qe Q9 z3)<|.o (Qd (u := (x_).Kinds) QaF z0 rfl)<|.q 3 rfl<|.o (Qr ud23 QZ z1 z0 ht26)<|.o (Qm QZ z0)<|.m [] [0] rfl rfl rfl (Q0 (R := Qk) (a := zz1) QZ Qid)<|.e [] [0] [1] rfl rfl rfl rfl (QS (R := Qk) (a := t26) QZ z0 z1 (leb rfl))<|.n) fun _ a w H => ?_
  replace H : St _ _ _ [_,_,_,_] [] _ _ := (((H.pick [5,7,8,9]).shareB 0 rfl).add 0 rfl (fun _ _ _ h => h.2)).pick [0,3,4,5]
  refine wp_seq_k (fun _ k199 => ?_)
  have ⟨u29,hu29,h⟩ := bs h
  have ⟨u32,hu32,h⟩ := bs h
  have ⟨t35,ht35,h⟩ := bs h
  have ⟨t38,ht38,h⟩ := bs h
  refine wr mx [] H (fun _ => .q 2 rfl<|.o (Qan z0 .k hu29)<|.o (Qe Qbo z2)<|.o (Qd (u := (t26).Name) tok9 z0 rfl)<|.o (Qan z2 z0 hu32)<|.o (Qe QhZ z5)<|.o (Qd (u := (t26).Lo) tok3 z0 rfl)<|.o (Qf Qft (Qb2 ht35) (.cons (.of z2)<|.cons (.of z0)<|.nil))<|.o (Qe Qh0 z8)<|.o (Qd (u := (t26).Hi) tok3 z0 rfl)<|.o (Qf Qft (Qb2 ht38) (.cons (.of z2)<|.cons (.of z0)<|.nil))<|.o (Qa z0)<|.n) fun _ a w H => ?_
  have H := H.to [11,12,13,14] [_,_,_,_] [] rfl rfl
  refine k199 _ _ ?_
  refine sr mx [] H (fun _ => .o (Qa .k)<|.n) fun _ a w H => ?_
  have H := H.to [0,1,2,3,4] [_,_,_,_,_] [] rfl rfl
  have ⟨e202,he202,h⟩ := bs h
  have hJp207 : ∀ (p207 : Str) a w,p207 = e202 → St M w0 149 [(3,tv (.string (sB p207))),(4,ti s5.1),(1,tptr (Qg.cs x_))] [] a w → K196 a w := by
   intro p207 a w he H
   subst he
   refine k196 _ _ ?_
   refine wr mx [] H (fun _ => .q 1 rfl<|.o (QQ z0 .k)<|.o (Qa z0)<|.n) fun _ a w H => ?_
   have H := H.to [2,3,4] [_,_,_] [] rfl rfl
   exact k193 _ _ _ (sj h).symm (H.pick [0,1,2])
  refine wp_block ?_
  refine QR _ (fun (s201 : Int × Str) a w => St M w0 149 [(6,ti s201.1),(3,tv (.string (sB s201.2))),(5,tptr (Qk.cs t26)),(4,ti s5.1),(1,tptr (Qg.cs x_))] [] a w) _ _ he202 (H.pick [0,1,2,3,4]) ?_
  clear h
  intro s201 o a w K208 hI h ho k208
  have H := hI
  clear hI
  refine wp_seq_k (fun _ k209 => ?_)
  refine sr mx [] H (fun _ => .q 0 rfl<|.o (Qe Qaf z3)<|.o (Qd (u := (t26).Fields) QaK z0 rfl)<|.o (QE ud53 z0)<|.o (QG z3 z0)<|.n) fun _ a w H => ?_
  have H := H.to [4,5,6,7,8,9] [_,_,_,_,_,_] [] rfl rfl
  refine wi H h (fun b212 h => ?_) (fun b212 h => ?_)
  ·refine wp_skip (k209 _ _ ?_)
   refine wp_seq_k (fun _ k211 => ?_)
   refine wp_block ?_
   have ⟨t50,ht50,h⟩ := bs h
   have ⟨t52,ht52,h⟩ := bs h
   have ⟨u53,hu53,h⟩ := bs h
   refine wr mx [] H (fun _ => .q 2 rfl<|.o (Qe Qaf z4)<|.o (Qd (u := (t26).Fields) QaK z0 rfl)<|.q 4 rfl<|.o (Qr ud53 QI z1 z0 ht50)<|.o (Qm QI z0)<|.o (Qf Qui (Qpx ht52) (.cons (.of z0)<|.nil))<|.o (Qan z6 z0 hu53)<|.o (Qa z0)<|.n) fun _ a w H => ?_
   have H := H.to [8,10,11,12,13] [_,_,_,_,_] [] rfl rfl
   refine k211 _ _ ?_
   refine wr mx [] H (fun _ => .q 1 rfl<|.o (QQ z0 .k)<|.o (Qa z0)<|.n) fun _ a w H => ?_
   have H := H.to [2,3,4,5,6] [_,_,_,_,_] [] rfl rfl
   exact k208 _ _ _ (sj h).symm (H.pick [0,1,2,3,4])
  refine wp_exit ?_
  exact hJp207 _ _ _ (ho _ (sj h).symm) (H.pick [2,4,5])
 refine wp_exit ?_
 exact hJp51 _ _ _ (ho _ (sj h).symm) (H.pick [2,3])

/- diorama/dioramaref09.Valid -/
noncomputable def QgQ (x_ : Qh) : Option (Int) := (QaP (x_).Version (0:Int) (1048576:Int)).bind fun t8 => (if ((((!t8) || (decide (((x_).Kinds.length : Int) > (6:Int)))) || (decide (((x_).Lives.length : Int) > (6:Int)))) || (decide (((x_).Rules.length : Int) > (16:Int)))) = true then (some (1:Int)) else (QF (fun (s7 : Int) => ((if (decide (s7 < ((x_).Kinds.length : Int))) = true then (idx (x_).Kinds s7).bind fun t38 => (Qgh t38).bind fun t40 => (if (!t40) = true then (some (.inr (.inr (1:Int)))) else (some (.inl (IntKind.i64.wrap (s7 + (1:Int)))))) else (some (.inr (.inl ())))) : Option ((Int) ⊕ ((Unit) ⊕ (Int))))) (0:Int)).bind fun (e8 : (Unit) ⊕ (Int)) => (match e8 with | .inl _ => (QF (fun (s27 : Int) => ((if (decide (s27 < ((x_).Lives.length : Int))) = true then (idx (x_).Lives s27).bind fun t52 => (Qgi t52).bind fun t54 => (if (!t54) = true then (some (.inr (.inr (1:Int)))) else (some (.inl (IntKind.i64.wrap (s27 + (1:Int)))))) else (some (.inr (.inl ())))) : Option ((Int) ⊕ ((Unit) ⊕ (Int))))) (0:Int)).bind fun (e28 : (Unit) ⊕ (Int)) => (match e28 with | .inl _ => (QF (fun (s47 : Int) => ((if (decide (s47 < ((x_).Rules.length : Int))) = true then (idx (x_).Rules s47).bind fun t66 => (Qgj t66).bind fun t68 => (if (!t68) = true then (some (.inr (.inr (1:Int)))) else (some (.inl (IntKind.i64.wrap (s47 + (1:Int)))))) else (some (.inr (.inl ())))) : Option ((Int) ⊕ ((Unit) ⊕ (Int))))) (0:Int)).bind fun (e48 : (Unit) ⊕ (Int)) => (match e48 with | .inl _ => (Qgk x_).bind fun t71 => (if (decide ((t71.length : Int) > (8192:Int))) = true then (some (4:Int)) else (some (0:Int))) | .inr p64 => (some p64)) | .inr p44 => (some p44)) | .inr p24 => (some p24)))
theorem QoM {x_ : Qh} {r : Int} (h : QgQ x_ = some r) : FnOk Tryz.prog 75 [Qg.ty x_] [] (fun _ => []) (fun _ => ti r) := by
 unfold QgQ at h
 refine fe Tryz.func75 Tryz.ntmps75 fun M0 M w0 a hpl H => ?_
 replace H : St M w0 74 [(0,Qg.ty x_)] [] a w0 := H
 refine sr mx [] H (fun _ => .o (QV (R := Qg) (u := x_) z0)<|.o (Qa .k)<|.n) fun _ a w H => ?_
 have H := H.to [0] [_] [] rfl rfl
 refine wp_seq_k (fun _ k2 => ?_)
 have ⟨t8,ht8,h⟩ := bs h
 refine sr mx [] H (fun _ => .o (Qe Qkb z0)<|.o (Qd (u := (x_).Version) tok3 z0 rfl)<|.o (Qf Qh2 (Qcj ht8) (.cons (.of z0)<|.cons (.of .k)<|.cons (.of .k)<|.nil))<|.o (Qae z0)<|.q 0 rfl<|.g rfl rfl bq0 (fun _ => Qe Q9 z5)<|.g rfl rfl bq1 (fun hc => Qd (u := (x_).Kinds) QaF (.cond z0 hc) rfl)<|.g rfl rfl bq2 (fun hc => QE ud23 (.cond z0 hc))<|.g rfl rfl bq3 (fun hc => Qa0 (.cond z0 hc) .k)<|.o (Q6 z4 (fun hp => (.cond z0 (beqF hp))))<|.q 0 rfl<|.g rfl rfl bq0 (fun _ => Qe Qbc z11)<|.g rfl rfl bq1 (fun hc => Qd (u := (x_).Lives) QeH (.cond z0 hc) rfl)<|.g rfl rfl bq2 (fun hc => QE ud24 (.cond z0 hc))<|.g rfl rfl bq3 (fun hc => Qa0 (.cond z0 hc) .k)<|.o (Q6 z4 (fun hp => (.cond z0 (beqF hp))))<|.q 0 rfl<|.g rfl rfl bq0 (fun _ => Qe QbH z17)<|.g rfl rfl bq1 (fun hc => Qd (u := (x_).Rules) Qfp (.cond z0 hc) rfl)<|.g rfl rfl bq2 (fun hc => QE ud25 (.cond z0 hc))<|.g rfl rfl bq3 (fun hc => Qa0 (.cond z0 hc) .k)<|.o (Q6 z4 (fun hp => (.cond z0 (beqF hp))))<|.n) fun _ a w H => ?_
 have H := H.to [21,22] [_,_] [] rfl rfl
 refine wi H h (fun b94 h => ?_) (fun b94 h => ?_)
 ·refine sr mx [] H (fun _ => .o (Qa .k)<|.n) fun _ a w H => ?_
  have H := H.to [0] [_] [] rfl rfl
  refine wp_ret ?_
  obtain rfl := sj h
  exact rt undef [] hpl H (.tmp z0 .nil)
 refine wp_skip (k2 _ _ ?_)
 refine wp_seq_k (fun K5 k5 => ?_)
 refine sr mx [] H (fun _ => .o (Qa .k)<|.n) fun _ a w H => ?_
 have H := H.to [0,2] [_,_] [] rfl rfl
 have ⟨e8,he8,h⟩ := bs h
 have hJp23 : ∀ (p23 : Unit) a w,(.inl p23) = e8 → St M w0 74 [(1,tptr (Qg.cs x_))] [] a w → K5 a w := by
  intro p23 a w he H
  subst he
  simp only at h
  refine k5 _ _ ?_
  refine wp_seq_k (fun K25 k25 => ?_)
  refine sr mx [] H (fun _ => .o (Qa .k)<|.n) fun _ a w H => ?_
  have H := H.to [0,1] [_,_] [] rfl rfl
  have ⟨e28,he28,h⟩ := bs h
  have hJp43 : ∀ (p43 : Unit) a w,(.inl p43) = e28 → St M w0 74 [(1,tptr (Qg.cs x_))] [] a w → K25 a w := by
   intro p43 a w he H
   subst he
   simp only at h
   refine k25 _ _ ?_
   refine wp_seq_k (fun K45 k45 => ?_)
   refine sr mx [] H (fun _ => .o (Qa .k)<|.n) fun _ a w H => ?_
   have H := H.to [0,1] [_,_] [] rfl rfl
   have ⟨e48,he48,h⟩ := bs h
   have hJp63 : ∀ (p63 : Unit) a w,(.inl p63) = e48 → St M w0 74 [(1,tptr (Qg.cs x_))] [] a w → K45 a w := by
    intro p63 a w he H
    subst he
    simp only at h
    refine k45 _ _ ?_
    refine wp_seq_k (fun _ k65 => ?_)
    have ⟨t71,ht71,h⟩ := bs h
    refine sr mx [] H (fun _ => .o (Qm Qar z0)<|.o (Qf Qt1 (Qof ht71) (.cons (.of z0)<|.nil))<|.o (op_lenS' ud9 z0)<|.o (Qa0 z0 .k)<|.n) fun _ a w H => ?_
    have H := H.to [3] [_] [] rfl rfl
    refine wi H h (fun b69 h => ?_) (fun b69 h => ?_)
    ·refine sr mx [] H (fun _ => .o (Qa .k)<|.n) fun _ a w H => ?_
     have H := H.to [0] [_] [] rfl rfl
     refine wp_ret ?_
     obtain rfl := sj h
     exact rt undef [] hpl H (.tmp z0 .nil)
    refine wp_skip (k65 _ _ ?_)
    refine sr mx [] H (fun _ => .o (Qa .k)<|.n) fun _ a w H => ?_
    have H := H.to [0] [_] [] rfl rfl
    refine wp_ret ?_
    obtain rfl := sj h
    exact rt undef [] hpl H (.tmp z0 .nil)
   have hJp64 : ∀ (p64 : Int) a w,(.inr p64) = e48 → St M w0 74 [(2,ti p64)] [] a w → Ret Tryz.prog Tryz.f75 M0 [] w0 (fun _ => []) (fun _ => ti r) .ret a w := by
    intro p64 a w he H
    subst he
    simp only at h
    obtain rfl := sj h
    exact rt undef [] hpl H (.tmp z0 .nil)
   refine wp_block ?_
   refine QR _ (fun (s47 : Int) a w => St M w0 74 [(5,ti s47),(1,tptr (Qg.cs x_))] [] a w) _ _ he48 (H.pick [0,1]) ?_
   clear h
   intro s47 o a w K70 hI h ho k70
   have H := hI
   clear hI
   refine wp_seq_k (fun _ k71 => ?_)
   refine sr mx [] H (fun _ => .q 0 rfl<|.o (Qe QbH z2)<|.o (Qd (u := (x_).Rules) Qfp z0 rfl)<|.o (QE ud25 z0)<|.o (QG z3 z0)<|.n) fun _ a w H => ?_
   have H := H.to [4,5,6] [_,_,_] [] rfl rfl
   refine wi H h (fun b77 h => ?_) (fun b77 h => ?_)
   ·refine wp_skip (k71 _ _ ?_)
    refine wp_seq_k (fun _ k73 => ?_)
    refine wp_block ?_
    have ⟨t66,ht66,h⟩ := bs h
    have ⟨t68,ht68,h⟩ := bs h
    refine sr mx [] H (fun _ => .o (Qe QbH z2)<|.o (Qd (u := (x_).Rules) Qfp z0 rfl)<|.q 3 rfl<|.o (Qr ud25 QaU z1 z0 ht66)<|.o (Qm QaU z0)<|.o (Qf Qt0 (Qoe ht68) (.cons (.of z0)<|.nil))<|.o (Qae z0)<|.n) fun _ a w H => ?_
    have H := H.to [6,8,9] [_,_,_] [] rfl rfl
    refine wi H h (fun b76 h => ?_) (fun b76 h => ?_)
    ·refine sr mx [] H (fun _ => .o (Qa .k)<|.n) fun _ a w H => ?_
     have H := H.to [0] [_] [] rfl rfl
     refine wp_ret ?_
     exact hJp64 _ _ _ (ho _ (sj h).symm) (H.pick [0])
    refine wp_skip (k73 _ _ ?_)
    refine wr mx [] H (fun _ => .q 1 rfl<|.o (QQ z0 .k)<|.o (Qa z0)<|.n) fun _ a w H => ?_
    have H := H.to [2,4] [_,_] [] rfl rfl
    exact k70 _ _ _ (sj h).symm (H.pick [0,1])
   refine wp_exit ?_
   exact hJp63 _ _ _ (ho _ (sj h).symm) (H.pick [2])
  have hJp44 : ∀ (p44 : Int) a w,(.inr p44) = e28 → St M w0 74 [(2,ti p44)] [] a w → Ret Tryz.prog Tryz.f75 M0 [] w0 (fun _ => []) (fun _ => ti r) .ret a w := by
   intro p44 a w he H
   subst he
   simp only at h
   obtain rfl := sj h
   exact rt undef [] hpl H (.tmp z0 .nil)
  refine wp_block ?_
  refine QR _ (fun (s27 : Int) a w => St M w0 74 [(4,ti s27),(1,tptr (Qg.cs x_))] [] a w) _ _ he28 (H.pick [0,1]) ?_
  clear h
  intro s27 o a w K78 hI h ho k78
  have H := hI
  clear hI
  refine wp_seq_k (fun _ k79 => ?_)
  refine sr mx [] H (fun _ => .q 0 rfl<|.o (Qe Qbc z2)<|.o (Qd (u := (x_).Lives) QeH z0 rfl)<|.o (QE ud24 z0)<|.o (QG z3 z0)<|.n) fun _ a w H => ?_
  have H := H.to [4,5,6] [_,_,_] [] rfl rfl
  refine wi H h (fun b85 h => ?_) (fun b85 h => ?_)
  ·refine wp_skip (k79 _ _ ?_)
   refine wp_seq_k (fun _ k81 => ?_)
   refine wp_block ?_
   have ⟨t52,ht52,h⟩ := bs h
   have ⟨t54,ht54,h⟩ := bs h
   refine sr mx [] H (fun _ => .o (Qe Qbc z2)<|.o (Qd (u := (x_).Lives) QeH z0 rfl)<|.q 3 rfl<|.o (Qr ud24 Qby z1 z0 ht52)<|.o (Qm Qby z0)<|.o (Qf QtZ (Qod ht54) (.cons (.of z0)<|.nil))<|.o (Qae z0)<|.n) fun _ a w H => ?_
   have H := H.to [6,8,9] [_,_,_] [] rfl rfl
   refine wi H h (fun b84 h => ?_) (fun b84 h => ?_)
   ·refine sr mx [] H (fun _ => .o (Qa .k)<|.n) fun _ a w H => ?_
    have H := H.to [0] [_] [] rfl rfl
    refine wp_ret ?_
    exact hJp44 _ _ _ (ho _ (sj h).symm) (H.pick [0])
   refine wp_skip (k81 _ _ ?_)
   refine wr mx [] H (fun _ => .q 1 rfl<|.o (QQ z0 .k)<|.o (Qa z0)<|.n) fun _ a w H => ?_
   have H := H.to [2,4] [_,_] [] rfl rfl
   exact k78 _ _ _ (sj h).symm (H.pick [0,1])
  refine wp_exit ?_
  exact hJp43 _ _ _ (ho _ (sj h).symm) (H.pick [2])
 have hJp24 : ∀ (p24 : Int) a w,(.inr p24) = e8 → St M w0 74 [(2,ti p24)] [] a w → Ret Tryz.prog Tryz.f75 M0 [] w0 (fun _ => []) (fun _ => ti r) .ret a w := by
  intro p24 a w he H
  subst he
  simp only at h
  obtain rfl := sj h
  exact rt undef [] hpl H (.tmp z0 .nil)
 refine wp_block ?_
 refine QR _ (fun (s7 : Int) a w => St M w0 74 [(3,ti s7),(1,tptr (Qg.cs x_))] [] a w) _ _ he8 (H.pick [0,1]) ?_
 clear h
 intro s7 o a w K86 hI h ho k86
 have H := hI
 clear hI
 refine wp_seq_k (fun _ k87 => ?_)
 refine sr mx [] H (fun _ => .q 0 rfl<|.o (Qe Q9 z2)<|.o (Qd (u := (x_).Kinds) QaF z0 rfl)<|.o (QE ud23 z0)<|.o (QG z3 z0)<|.n) fun _ a w H => ?_
 have H := H.to [4,5,6] [_,_,_] [] rfl rfl
 refine wi H h (fun b93 h => ?_) (fun b93 h => ?_)
 ·refine wp_skip (k87 _ _ ?_)
  refine wp_seq_k (fun _ k89 => ?_)
  refine wp_block ?_
  have ⟨t38,ht38,h⟩ := bs h
  have ⟨t40,ht40,h⟩ := bs h
  refine sr mx [] H (fun _ => .o (Qe Q9 z2)<|.o (Qd (u := (x_).Kinds) QaF z0 rfl)<|.q 3 rfl<|.o (Qr ud23 QZ z1 z0 ht38)<|.o (Qm QZ z0)<|.o (Qf QtY (Qoc ht40) (.cons (.of z0)<|.nil))<|.o (Qae z0)<|.n) fun _ a w H => ?_
  have H := H.to [6,8,9] [_,_,_] [] rfl rfl
  refine wi H h (fun b92 h => ?_) (fun b92 h => ?_)
  ·refine sr mx [] H (fun _ => .o (Qa .k)<|.n) fun _ a w H => ?_
   have H := H.to [0] [_] [] rfl rfl
   refine wp_ret ?_
   exact hJp24 _ _ _ (ho _ (sj h).symm) (H.pick [0])
  refine wp_skip (k89 _ _ ?_)
  refine wr mx [] H (fun _ => .q 1 rfl<|.o (QQ z0 .k)<|.o (Qa z0)<|.n) fun _ a w H => ?_
  have H := H.to [2,4] [_,_] [] rfl rfl
  exact k86 _ _ _ (sj h).symm (H.pick [0,1])
 refine wp_exit ?_
 exact hJp23 _ _ _ (ho _ (sj h).symm) (H.pick [2])

/- diorama/dioramaref10.add -/
noncomputable def Qb6 (l_ : (List QO)) (kind_ : Int) (field_ : Int) (rule_ : Int) (e_ : Int) : Option ((List QO)) := (if (e_ == (0:Int)) = true then (some l_) else (rm (l_.length + [(QO.mk kind_ field_ rule_ e_)].length)).bind fun _ => (some (l_ ++ [(QO.mk kind_ field_ rule_ e_)])))
theorem Qev {vh0 : Value} {l_ : (List QO)} {kind_ : Int} {field_ : Int} {rule_ : Int} {e_ : Int} {r : (List QO)} (h : Qb6 l_ kind_ field_ rule_ e_ = some r) : FnOk Tryz.prog 76 [tv vh0,ti kind_,ti field_,ti rule_,ti e_] [own Q3 94 l_ vh0] (fun v => [own Q3 94 r v]) (fun v => tv v) := by
 unfold Qb6 at h
 refine fe Tryz.func76 Tryz.ntmps76 fun M0 M w0 a hpl H => ?_
 replace H : St M w0 22 [(0,tv vh0),(1,ti kind_),(2,ti field_),(3,ti rule_),(4,ti e_)] [own Q3 94 l_ vh0] a w0 := H
 refine sr mx [] H (fun _ => .o (Qa .k)<|.n) fun _ a w H => ?_
 have H := H.to [1,2,3,4,5] [_,_,_,_,_] [_] rfl rfl
 refine wp_seq_k (fun _ k3 => ?_)
 refine sr mx [] H (fun _ => .q 4 rfl<|.o (QM z0 .k)<|.n) fun _ a w H => ?_
 have H := H.to [1,2,3,4,5,6] [_,_,_,_,_,_] [_] rfl rfl
 refine wi H h (fun b7 h => ?_) (fun b7 h => ?_)
 ·refine sr mx [] H (fun _ => .q 1 rfl<|.o (Qa z0)<|.n) fun _ a w H => ?_
  have H := H.to [0,1,3] [_,_,_] [_] rfl rfl
  refine wp_ret ?_
  obtain rfl := sj h
  exact rt vh0 [0] hpl H (.tmp z1 .nil)
 refine wp_skip (k3 _ _ ?_)
 refine wp_seq_k (fun _ k6 => ?_)
 have ⟨u21,hu21,h⟩ := bs h
 refine wr mx [v1 7 (fun v0 => own Q3 94 (l_ ++ [(QO.mk kind_ field_ rule_ e_)]) v0)] H (fun _ => .q 1 rfl<|.q 3 rfl<|.q 5 rfl<|.q 7 rfl<|.q 9 rfl<|.p (T := Q3.ty (QO.mk kind_ field_ rule_ e_)) rfl (QY Tryz.underlying94 pl94 zv94 zc94 (.cons (R := rI) (u := kind_) rfl z3 (leb rfl)<|.cons (R := rI) (u := field_) rfl z2 (leb rfl)<|.cons (R := rI) (u := rule_) rfl z1 (leb rfl)<|.cons (R := rI) (u := e_) rfl z0 (leb rfl)<|.nil _))<|.o (Qy (R := Q3) (us := [(QO.mk kind_ field_ rule_ e_)]) ud91 Qrg (.cons z0<|.nil _) rfl (leb rfl))<|.e [] [0] [1] rfl rfl rfl rfl (Qag (R := Q3) ud91 Qrg (leb rfl) z6 z0 hu21)<|.ud (f := fun v => tv v) 7 rfl [] rfl rfl (Qa z0)<|.n) fun n3 a w H => ?_
 have H := H.to [7,8] [_,_] [_] rfl rfl
 refine k6 _ _ ?_
 refine wp_ret ?_
 obtain rfl := sj h
 exact rt (n3 7) [0] hpl H (.tmp z1 .nil)

/- diorama/dioramaref10.Kind -/
noncomputable def Qct (x_ : Qh) (name_ : Str) : Option (Int) := (QF (fun (s4 : Int) => ((if (decide (s4 < ((x_).Kinds.length : Int))) = true then (idx (x_).Kinds s4).bind fun t16 => (if ((t16).Name == name_) = true then (some (.inr (.inr s4))) else (some (.inl (IntKind.i64.wrap (s4 + (1:Int)))))) else (some (.inr (.inl ())))) : Option ((Int) ⊕ ((Unit) ⊕ (Int))))) (0:Int)).bind fun (e5 : (Unit) ⊕ (Int)) => (match e5 with | .inl _ => (some (-1:Int)) | .inr p21 => (some p21))
theorem Qe1 {x_ : Qh} {name_ : Str} {r : Int} (h : Qct x_ name_ = some r) : FnOk Tryz.prog 40 [Qg.ty x_,tv (.string (sB name_))] [] (fun _ => []) (fun _ => ti r) := by
 unfold Qct at h
 refine fe Tryz.func40 Tryz.ntmps40 fun M0 M w0 a hpl H => ?_
 replace H : St M w0 22 [(0,Qg.ty x_),(1,tv (.string (sB name_)))] [] a w0 := H
 refine sr mx [] H (fun _ => .o (QV (R := Qg) (u := x_) z0)<|.o (Qa .k)<|.n) fun _ a w H => ?_
 have H := H.to [0,3] [_,_] [] rfl rfl
 refine wp_seq_k (fun K2 k2 => ?_)
 refine sr mx [] H (fun _ => .o (Qa .k)<|.n) fun _ a w H => ?_
 have H := H.to [0,1,2] [_,_,_] [] rfl rfl
 have ⟨e5,he5,h⟩ := bs h
 have hJp20 : ∀ (p20 : Unit) a w,(.inl p20) = e5 → St M w0 22 [] [] a w → K2 a w := by
  intro p20 a w he H
  subst he
  simp only at h
  refine k2 _ _ ?_
  refine sr mx [] H (fun _ => .o (Qa .k)<|.n) fun _ a w H => ?_
  have H := H.to [0] [_] [] rfl rfl
  refine wp_ret ?_
  obtain rfl := sj h
  exact rt undef [] hpl H (.tmp z0 .nil)
 have hJp21 : ∀ (p21 : Int) a w,(.inr p21) = e5 → St M w0 22 [(4,ti p21)] [] a w → Ret Tryz.prog Tryz.f40 M0 [] w0 (fun _ => []) (fun _ => ti r) .ret a w := by
  intro p21 a w he H
  subst he
  simp only at h
  obtain rfl := sj h
  exact rt undef [] hpl H (.tmp z0 .nil)
 refine wp_block ?_
 refine QR _ (fun (s4 : Int) a w => St M w0 22 [(5,ti s4),(2,tptr (Qg.cs x_)),(1,tv (.string (sB name_)))] [] a w) _ _ he5 (H.pick [0,1,2]) ?_
 clear h
 intro s4 o a w K23 hI h ho k23
 have H := hI
 clear hI
 refine wp_seq_k (fun _ k24 => ?_)
 refine sr mx [] H (fun _ => .q 0 rfl<|.o (Qe Q9 z2)<|.o (Qd (u := (x_).Kinds) QaF z0 rfl)<|.o (QE ud23 z0)<|.o (QG z3 z0)<|.n) fun _ a w H => ?_
 have H := H.to [4,5,6,7] [_,_,_,_] [] rfl rfl
 refine wi H h (fun b30 h => ?_) (fun b30 h => ?_)
 ·refine wp_skip (k24 _ _ ?_)
  refine wp_seq_k (fun _ k26 => ?_)
  refine wp_block ?_
  have ⟨t16,ht16,h⟩ := bs h
  refine sr mx [] H (fun _ => .o (Qe Q9 z2)<|.o (Qd (u := (x_).Kinds) QaF z0 rfl)<|.q 3 rfl<|.o (Qr ud23 QZ z1 z0 ht16)<|.o (Qe Qbo z0)<|.o (Qd (u := (t16).Name) tok9 z0 rfl)<|.q 9 rfl<|.o (Qa6 z1 z0)<|.n) fun _ a w H => ?_
  have H := H.to [7,9,10,11] [_,_,_,_] [] rfl rfl
  refine wi H h (fun b29 h => ?_) (fun b29 h => ?_)
  ·refine sr mx [] H (fun _ => .q 1 rfl<|.o (Qa z0)<|.n) fun _ a w H => ?_
   have H := H.to [1] [_] [] rfl rfl
   refine wp_ret ?_
   exact hJp21 _ _ _ (ho _ (sj h).symm) (H.pick [0])
  refine wp_skip (k26 _ _ ?_)
  refine wr mx [] H (fun _ => .q 1 rfl<|.o (QQ z0 .k)<|.o (Qa z0)<|.n) fun _ a w H => ?_
  have H := H.to [2,4,5] [_,_,_] [] rfl rfl
  exact k23 _ _ _ (sj h).symm (H.pick [0,1,2])
 refine wp_exit ?_
 exact hJp20 _ _ _ (ho _ (sj h).symm) (H.pick [])

/- diorama/dioramaref10.keyed -/
noncomputable def QgR (l_ : (List Qc)) : Option (Bool) := (if ((l_.length : Int) == (0:Int)) = true then (some false) else (idx l_ (0:Int)).bind fun t7 => (some ((t7).Kind == (0:Int))))
theorem QoN {l_ : (List Qc)} {r : Bool} (h : QgR l_ = some r) : FnOk Tryz.prog 77 [tsl Qb l_] [] (fun _ => []) (fun _ => tb r) := by
 unfold QgR at h
 refine fe Tryz.func77 Tryz.ntmps77 fun M0 M w0 a hpl H => ?_
 replace H : St M w0 11 [(0,tsl Qb l_)] [] a w0 := H
 refine sr mx [] H (fun _ => .o (Qa .k)<|.n) fun _ a w H => ?_
 have H := H.to [1] [_] [] rfl rfl
 refine wp_seq_k (fun _ k2 => ?_)
 refine sr mx [] H (fun _ => .q 0 rfl<|.o (QE ud53 z0)<|.o (QM z0 .k)<|.n) fun _ a w H => ?_
 have H := H.to [2,3] [_,_] [] rfl rfl
 refine wi H h (fun b6 h => ?_) (fun b6 h => ?_)
 ·refine sr mx [] H (fun _ => .o (Qa .k)<|.n) fun _ a w H => ?_
  have H := H.to [0] [_] [] rfl rfl
  refine wp_ret ?_
  obtain rfl := sj h
  exact rt undef [] hpl H (.tmp z0 .nil)
 refine wp_skip (k2 _ _ ?_)
 have ⟨t7,ht7,h⟩ := bs h
 refine sr mx [] H (fun _ => .q 1 rfl<|.o (Qr ud53 QI z0 .k ht7)<|.o (Qe Qao z0)<|.o (Qd (u := (t7).Kind) tok3 z0 rfl)<|.o (QM z0 .k)<|.o (Qa z0)<|.n) fun _ a w H => ?_
 have H := H.to [5] [_] [] rfl rfl
 refine wp_ret ?_
 obtain rfl := sj h
 exact rt undef [] hpl H (.tmp z0 .nil)

/- diorama/dioramaref10.Field -/
noncomputable def Qcu (k_ : Qj) (name_ : Str) : Option (Int) := (QF (fun (s4 : Int) => ((if (decide (s4 < ((k_).Fields.length : Int))) = true then (idx (k_).Fields s4).bind fun t16 => (if ((t16).Name == name_) = true then (some (.inr (.inr s4))) else (some (.inl (IntKind.i64.wrap (s4 + (1:Int)))))) else (some (.inr (.inl ())))) : Option ((Int) ⊕ ((Unit) ⊕ (Int))))) (0:Int)).bind fun (e5 : (Unit) ⊕ (Int)) => (match e5 with | .inl _ => (some (-1:Int)) | .inr p21 => (some p21))
theorem Qfw {k_ : Qj} {name_ : Str} {r : Int} (h : Qcu k_ name_ = some r) : FnOk Tryz.prog 78 [Qk.ty k_,tv (.string (sB name_))] [] (fun _ => []) (fun _ => ti r) := by
 unfold Qcu at h
 refine fe Tryz.func78 Tryz.ntmps78 fun M0 M w0 a hpl H => ?_
 replace H : St M w0 22 [(0,Qk.ty k_),(1,tv (.string (sB name_)))] [] a w0 := H
 refine sr mx [] H (fun _ => .o (QV (R := Qk) (u := k_) z0)<|.o (Qa .k)<|.n) fun _ a w H => ?_
 have H := H.to [0,3] [_,_] [] rfl rfl
 refine wp_seq_k (fun K2 k2 => ?_)
 refine sr mx [] H (fun _ => .o (Qa .k)<|.n) fun _ a w H => ?_
 have H := H.to [0,1,2] [_,_,_] [] rfl rfl
 have ⟨e5,he5,h⟩ := bs h
 have hJp20 : ∀ (p20 : Unit) a w,(.inl p20) = e5 → St M w0 22 [] [] a w → K2 a w := by
  intro p20 a w he H
  subst he
  simp only at h
  refine k2 _ _ ?_
  refine sr mx [] H (fun _ => .o (Qa .k)<|.n) fun _ a w H => ?_
  have H := H.to [0] [_] [] rfl rfl
  refine wp_ret ?_
  obtain rfl := sj h
  exact rt undef [] hpl H (.tmp z0 .nil)
 have hJp21 : ∀ (p21 : Int) a w,(.inr p21) = e5 → St M w0 22 [(4,ti p21)] [] a w → Ret Tryz.prog Tryz.f78 M0 [] w0 (fun _ => []) (fun _ => ti r) .ret a w := by
  intro p21 a w he H
  subst he
  simp only at h
  obtain rfl := sj h
  exact rt undef [] hpl H (.tmp z0 .nil)
 refine wp_block ?_
 refine QR _ (fun (s4 : Int) a w => St M w0 22 [(5,ti s4),(2,tptr (Qk.cs k_)),(1,tv (.string (sB name_)))] [] a w) _ _ he5 (H.pick [0,1,2]) ?_
 clear h
 intro s4 o a w K23 hI h ho k23
 have H := hI
 clear hI
 refine wp_seq_k (fun _ k24 => ?_)
 refine sr mx [] H (fun _ => .q 0 rfl<|.o (Qe Qaf z2)<|.o (Qd (u := (k_).Fields) QaK z0 rfl)<|.o (QE ud53 z0)<|.o (QG z3 z0)<|.n) fun _ a w H => ?_
 have H := H.to [4,5,6,7] [_,_,_,_] [] rfl rfl
 refine wi H h (fun b30 h => ?_) (fun b30 h => ?_)
 ·refine wp_skip (k24 _ _ ?_)
  refine wp_seq_k (fun _ k26 => ?_)
  refine wp_block ?_
  have ⟨t16,ht16,h⟩ := bs h
  refine sr mx [] H (fun _ => .o (Qe Qaf z2)<|.o (Qd (u := (k_).Fields) QaK z0 rfl)<|.q 3 rfl<|.o (Qr ud53 QI z1 z0 ht16)<|.o (Qe Qbd z0)<|.o (Qd (u := (t16).Name) tok9 z0 rfl)<|.q 9 rfl<|.o (Qa6 z1 z0)<|.n) fun _ a w H => ?_
  have H := H.to [7,9,10,11] [_,_,_,_] [] rfl rfl
  refine wi H h (fun b29 h => ?_) (fun b29 h => ?_)
  ·refine sr mx [] H (fun _ => .q 1 rfl<|.o (Qa z0)<|.n) fun _ a w H => ?_
   have H := H.to [1] [_] [] rfl rfl
   refine wp_ret ?_
   exact hJp21 _ _ _ (ho _ (sj h).symm) (H.pick [0])
  refine wp_skip (k26 _ _ ?_)
  refine wr mx [] H (fun _ => .q 1 rfl<|.o (QQ z0 .k)<|.o (Qa z0)<|.n) fun _ a w H => ?_
  have H := H.to [2,4,5] [_,_,_] [] rfl rfl
  exact k23 _ _ _ (sj h).symm (H.pick [0,1,2])
 refine wp_exit ?_
 exact hJp20 _ _ _ (ho _ (sj h).symm) (H.pick [])

/- diorama/dioramaref10.Has -/
noncomputable def Qit (x_ : Qh) (kind_ : Int) (field_ : Int) : Option (Bool) := (if (((decide (kind_ < (0:Int))) || (decide (kind_ ≥ ((x_).Kinds.length : Int)))) || (decide (field_ < (0:Int)))) = true then (some false) else (idx (x_).Kinds kind_).bind fun t24 => (some (decide (field_ < ((t24).Fields.length : Int)))))
theorem Qqe {x_ : Qh} {kind_ : Int} {field_ : Int} {r : Bool} (h : Qit x_ kind_ field_ = some r) : FnOk Tryz.prog 147 [Qg.ty x_,ti kind_,ti field_] [] (fun _ => []) (fun _ => tb r) := by
 unfold Qit at h
 refine fe Tryz.func147 Tryz.ntmps147 fun M0 M w0 a hpl H => ?_
 replace H : St M w0 29 [(0,Qg.ty x_),(1,ti kind_),(2,ti field_)] [] a w0 := H
 refine sr mx [] H (fun _ => .o (QV (R := Qg) (u := x_) z0)<|.o (Qa .k)<|.n) fun _ a w H => ?_
 have H := H.to [0,3,4] [_,_,_] [] rfl rfl
 refine wp_seq_k (fun _ k2 => ?_)
 refine sr mx [] H (fun _ => .q 1 rfl<|.o (QG z0 .k)<|.q 0 rfl<|.g rfl rfl bq0 (fun _ => Qq z4)<|.g rfl rfl bq1 (fun _ => Qe Q9 z4)<|.g rfl rfl bq2 (fun hc => Qd (u := (x_).Kinds) QaF (.cond z0 hc) rfl)<|.g rfl rfl bq3 (fun hc => QE ud23 (.cond z0 hc))<|.g rfl rfl bq4 (fun hc => QaJ (.cond z3 hc) (.cond z0 hc))<|.o (Q6 z5 (fun hp => (.cond z0 (beqF hp))))<|.q 0 rfl<|.g rfl rfl bq0 (fun _ => Qq z12)<|.g rfl rfl bq1 (fun hc => QG (.cond z0 hc) .k)<|.o (Q6 z2 (fun hp => (.cond z0 (beqF hp))))<|.n) fun _ a w H => ?_
 have H := H.to [12,13,14,15] [_,_,_,_] [] rfl rfl
 refine wi H h (fun b6 h => ?_) (fun b6 h => ?_)
 ·refine sr mx [] H (fun _ => .o (Qa .k)<|.n) fun _ a w H => ?_
  have H := H.to [0] [_] [] rfl rfl
  refine wp_ret ?_
  obtain rfl := sj h
  exact rt undef [] hpl H (.tmp z0 .nil)
 refine wp_skip (k2 _ _ ?_)
 have ⟨t24,ht24,h⟩ := bs h
 refine sr mx [] H (fun _ => .q 3 rfl<|.o (Qe Q9 z2)<|.o (Qd (u := (x_).Kinds) QaF z0 rfl)<|.q 5 rfl<|.o (Qr ud23 QZ z1 z0 ht24)<|.o (Qe Qaf z0)<|.o (Qd (u := (t24).Fields) QaK z0 rfl)<|.o (QE ud53 z0)<|.o (QG z7 z0)<|.o (Qa z0)<|.n) fun _ a w H => ?_
 have H := H.to [9] [_] [] rfl rfl
 refine wp_ret ?_
 obtain rfl := sj h
 exact rt undef [] hpl H (.tmp z0 .nil)

end Go.Proofs.YtcdccjagknlmpaaGreatDoor
