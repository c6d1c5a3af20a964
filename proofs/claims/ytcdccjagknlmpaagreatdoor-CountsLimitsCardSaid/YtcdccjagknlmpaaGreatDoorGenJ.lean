/- Go functions as Lean functions, and the proofs that they compute them, written by a program. No condition. -/
import Derived.Test.YtcdccjagknlmpaaGreatDoorGenI
namespace Go.Proofs.YtcdccjagknlmpaaGreatDoor
open Go.Sim
set_option maxRecDepth 100000
set_option maxHeartbeats 4000000

/- (diorama/counts.Limit).valid -/
noncomputable def Qco (l_ : Qi) (n_ : Int) : Option (Bool) := (some ((((((decide ((l_).A ≥ (0:Int))) && (decide ((l_).A < n_))) && (decide ((l_).B ≥ (-1:Int)))) && (decide ((l_).B < n_))) && (decide ((l_).Mul ≥ (0:Int)))) && (decide ((l_).Mul ≤ (65536:Int)))))
theorem Qh3 {l_ : Qi} {n_ : Int} {r : Bool} (h : Qco l_ n_ = some r) : FnOk Tryz.prog 42 [Ql.ty l_,ti n_] [] (fun _ => []) (fun _ => tb r) := by
 unfold Qco at h
 refine fe Tryz.func42 Tryz.ntmps42 fun M0 M w0 a hpl H => ?_
 replace H : St M w0 35 [(0,Ql.ty l_),(1,ti n_)] [] a w0 := H
 refine sr mx [] H (fun _ => .o (QV (R := Ql) (u := l_) z0)<|.o (Qa .k)<|.n) fun _ a w H => ?_
 have H := H.to [0,3] [_,_] [] rfl rfl
 refine sr mx [] H (fun _ => .o (Qe Qgu z0)<|.o (Qd (u := (l_).A) tok3 z0 rfl)<|.o (QaJ z0 .k)<|.q 0 rfl<|.g rfl rfl bq0 (fun _ => Qe Qgu z4)<|.g rfl rfl bq1 (fun hc => Qd (u := (l_).A) tok3 (.cond z0 hc) rfl)<|.g rfl rfl bq2 (fun _ => Qq z7)<|.g rfl rfl bq3 (fun hc => QG (.cond z1 hc) (.cond z0 hc))<|.o (QW z4 (fun hp => (.cond z0 (beqT hp))))<|.q 0 rfl<|.g rfl rfl bq0 (fun _ => Qe QeV z10)<|.g rfl rfl bq1 (fun hc => Qd (u := (l_).B) tok3 (.cond z0 hc) rfl)<|.g rfl rfl bq2 (fun hc => QaJ (.cond z0 hc) .k)<|.o (QW z3 (fun hp => (.cond z0 (beqT hp))))<|.q 0 rfl<|.g rfl rfl bq0 (fun _ => Qe QeV z15)<|.g rfl rfl bq1 (fun hc => Qd (u := (l_).B) tok3 (.cond z0 hc) rfl)<|.g rfl rfl bq2 (fun _ => Qq z18)<|.g rfl rfl bq3 (fun hc => QG (.cond z1 hc) (.cond z0 hc))<|.o (QW z4 (fun hp => (.cond z0 (beqT hp))))<|.q 0 rfl<|.g rfl rfl bq0 (fun _ => Qe Qgv z21)<|.g rfl rfl bq1 (fun hc => Qd (u := (l_).Mul) tok3 (.cond z0 hc) rfl)<|.g rfl rfl bq2 (fun hc => QaJ (.cond z0 hc) .k)<|.o (QW z3 (fun hp => (.cond z0 (beqT hp))))<|.q 0 rfl<|.g rfl rfl bq0 (fun _ => Qe Qgv z26)<|.g rfl rfl bq1 (fun hc => Qd (u := (l_).Mul) tok3 (.cond z0 hc) rfl)<|.g rfl rfl bq2 (fun hc => QcK (.cond z0 hc) .k)<|.o (QW z3 (fun hp => (.cond z0 (beqT hp))))<|.o (Qa z0)<|.n) fun _ a w H => ?_
 have H := H.to [30] [_] [] rfl rfl
 refine wp_ret ?_
 obtain rfl := sj h
 exact rt undef [] hpl H (.tmp z0 .nil)

/- diorama/counts.Clash$1 -/
noncomputable def Qfa (x_ : Qi) (c0_ : Int) : Option (Bool) := (Qco x_ c0_).bind fun t6 => (some (!t6))
theorem Qm8 {x_ : Qi} {c0_ : Int} {r : Bool} (h : Qfa x_ c0_ = some r) : FnOk Tryz.prog 56 [Ql.ty x_,tptr (rI.cs c0_)] [] (fun _ => []) (fun _ => tb r) := by
 unfold Qfa at h
 refine fe Tryz.func56 Tryz.ntmps56 fun M0 M w0 a hpl H => ?_
 replace H : St M w0 8 [(0,Ql.ty x_),(1,tptr (rI.cs c0_))] [] a w0 := H
 refine sr mx [] H (fun _ => .o (QV (R := Ql) (u := x_) z0)<|.o (Qa .k)<|.n) fun _ a w H => ?_
 have H := H.to [0,3] [_,_] [] rfl rfl
 have ⟨t6,ht6,h⟩ := bs h
 refine sr mx [] H (fun _ => .o (Qm Qbn z0)<|.o (Qm tok3 z2)<|.o (Qf QrR (Qh3 ht6) (.cons (.of z1)<|.cons (.of z0)<|.nil))<|.o (Qae z0)<|.o (Qa z0)<|.n) fun _ a w H => ?_
 have H := H.to [4] [_] [] rfl rfl
 refine wp_ret ?_
 obtain rfl := sj h
 exact rt undef [] hpl H (.tmp z0 .nil)

/- slices.IndexFunc[[]diorama/counts.Limit,diorama/counts.Limit] -/
noncomputable def Qb9 (s_ : (List Qi)) (f_ : (Qi → Option Bool)) : Option (Int) := (QF (fun (s4 : Int) => ((if (decide (s4 < (s_.length : Int))) = true then (idx s_ s4).bind fun t14 => (f_ t14).bind fun t16 => (if t16 = true then (some (.inr (.inr s4))) else (some (.inl (IntKind.i64.wrap (s4 + (1:Int)))))) else (some (.inr (.inl ())))) : Option ((Int) ⊕ ((Unit) ⊕ (Int))))) (0:Int)).bind fun (e5 : (Unit) ⊕ (Int)) => (match e5 with | .inl _ => (some (-1:Int)) | .inr p23 => (some p23))
theorem Qj0 {s_ : (List Qi)} {f_ : (Qi → Option Bool)} {r : Int} (h : Qb9 s_ f_ = some r) : FnOk Tryz.prog 88 [tsl Ql s_,QnU.ty f_] [] (fun _ => []) (fun _ => ti r) := by
 unfold Qb9 at h
 refine fe Tryz.func88 Tryz.ntmps88 fun M0 M w0 a hpl H => ?_
 replace H : St M w0 19 [(0,tsl Ql s_),(1,QnU.ty f_)] [] a w0 := H
 refine sr mx [] H (fun _ => .o (Qa .k)<|.n) fun _ a w H => ?_
 have H := H.to [1,2] [_,_] [] rfl rfl
 refine wp_seq_k (fun K2 k2 => ?_)
 refine sr mx [] H (fun _ => .q 0 rfl<|.o (QE ud31 z0)<|.o (Qq .k)<|.n) fun _ a w H => ?_
 have H := H.to [1,2,3,4] [_,_,_,_] [] rfl rfl
 have ⟨e5,he5,h⟩ := bs h
 have hJp22 : ∀ (p22 : Unit) a w,(.inl p22) = e5 → St M w0 19 [] [] a w → K2 a w := by
  intro p22 a w he H
  subst he
  simp only at h
  refine k2 _ _ ?_
  refine sr mx [] H (fun _ => .o (Qa .k)<|.n) fun _ a w H => ?_
  have H := H.to [0] [_] [] rfl rfl
  refine wp_ret ?_
  obtain rfl := sj h
  exact rt undef [] hpl H (.tmp z0 .nil)
 have hJp23 : ∀ (p23 : Int) a w,(.inr p23) = e5 → St M w0 19 [(4,ti p23)] [] a w → Ret Tryz.prog Tryz.f88 M0 [] w0 (fun _ => []) (fun _ => ti r) .ret a w := by
  intro p23 a w he H
  subst he
  simp only at h
  obtain rfl := sj h
  exact rt undef [] hpl H (.tmp z0 .nil)
 refine wp_block ?_
 refine QR _ (fun (s4 : Int) a w => St M w0 19 [(7,ti (s_.length : Int)),(8,ti s4),(0,tsl Ql s_),(1,QnU.ty f_)] [] a w) _ _ he5 (H.pick [0,1,2,3]) ?_
 clear h
 intro s4 o a w K25 hI h ho k25
 have H := hI
 clear hI
 refine sr mx [] H (fun _ => .o (QG z1 z0)<|.n) fun _ a w H => ?_
 have H := H.to [0,1,2,3,4] [_,_,_,_,_] [] rfl rfl
 refine wp_seq_k (fun _ k27 => ?_)
 refine wi H h (fun b33 h => ?_) (fun b33 h => ?_)
 ·refine wp_skip (k27 _ _ ?_)
  refine wp_seq_k (fun _ k28 => ?_)
  refine wp_block ?_
  refine sr mx [] H (fun _ => .q 2 rfl<|.o (Qa z0)<|.n) fun _ a w H => ?_
  have H := H.to [1,3,4,5,6] [_,_,_,_,_] [] rfl rfl
  have ⟨t14,ht14,h⟩ := bs h
  have ⟨t16,ht16,h⟩ := bs h
  refine sr mx [] H (fun _ => .q 4 rfl<|.q 4 rfl<|.q 2 rfl<|.o (Qr ud31 Qbn z1 z0 ht14)<|.o (Qm Qbn z0)<|.o (Qca (u := t14) z4 (.cons (.of z0)<|.nil) ht16)<|.n) fun _ a w H => ?_
  have H := H.to [5,6,7,8,9,10] [_,_,_,_,_,_] [] rfl rfl
  refine wi H h (fun b32 h => ?_) (fun b32 h => ?_)
  ·refine sr mx [] H (fun _ => .q 1 rfl<|.o (Qa z0)<|.n) fun _ a w H => ?_
   have H := H.to [1] [_] [] rfl rfl
   refine wp_ret ?_
   exact hJp23 _ _ _ (ho _ (sj h).symm) (H.pick [0])
  refine wp_skip (k28 _ _ ?_)
  refine wr mx [] H (fun _ => .o (QQ z3 .k)<|.q 0 rfl<|.n) fun _ a w H => ?_
  have H := H.to [1,4,5,6] [_,_,_,_] [] rfl rfl
  exact k25 _ _ _ (sj h).symm (H.pick [1,0,2,3])
 refine wp_exit ?_
 exact hJp22 _ _ _ (ho _ (sj h).symm) (H.pick [])

/- slices.ContainsFunc[[]diorama/counts.Limit,diorama/counts.Limit] -/
noncomputable def Qbf (s_ : (List Qi)) (f_ : (Qi → Option Bool)) : Option (Bool) := (Qb9 s_ f_).bind fun t7 => (some (decide (t7 ≥ (0:Int))))
theorem Qfz {s_ : (List Qi)} {f_ : (Qi → Option Bool)} {r : Bool} (h : Qbf s_ f_ = some r) : FnOk Tryz.prog 55 [tsl Ql s_,QnU.ty f_] [] (fun _ => []) (fun _ => tb r) := by
 unfold Qbf at h
 refine fe Tryz.func55 Tryz.ntmps55 fun M0 M w0 a hpl H => ?_
 replace H : St M w0 9 [(0,tsl Ql s_),(1,QnU.ty f_)] [] a w0 := H
 refine sr mx [] H (fun _ => .o (Qa .k)<|.n) fun _ a w H => ?_
 have H := H.to [1,2] [_,_] [] rfl rfl
 have ⟨t7,ht7,h⟩ := bs h
 refine sr mx [] H (fun _ => .q 0 rfl<|.q 2 rfl<|.o (Qf call88 (Qj0 ht7) (.cons (.of z1)<|.cons (.of z0)<|.nil))<|.o (QaJ z0 .k)<|.o (Qa z0)<|.n) fun _ a w H => ?_
 have H := H.to [4] [_] [] rfl rfl
 refine wp_ret ?_
 obtain rfl := sj h
 exact rt undef [] hpl H (.tmp z0 .nil)

/- (diorama/counts.Limit).up -/
noncomputable def Qez (l_ : Qi) (at_ : QC) : Option (Int × Int) := (if ((decide ((l_).B < (0:Int))) && (l_).Least) = true then (some ((l_).A,(l_).Mul)) else (if (l_).Least = true then (idx (at_).L (l_).B).bind fun t27 => (some ((l_).A,(IntKind.i64.wrap ((l_).Mul * t27)))) else (if ((decide ((l_).B ≥ (0:Int))) && (decide ((l_).Mul > (0:Int)))) = true then (idx (at_).L (l_).A).bind fun t43 => (nz (l_).Mul).bind fun _ => (some ((l_).B,(IntKind.i64.wrap (Int.tdiv (IntKind.i64.wrap ((IntKind.i64.wrap (t43 + (l_).Mul)) - (1:Int))) (l_).Mul)))) else (some ((l_).A,(0:Int))))))
theorem QmC {l_ : Qi} {at_ : QC} {r : Int × Int} (h : Qez l_ at_ = some r) : FnOk Tryz.prog 89 [Ql.ty l_,QB.ty at_] [] (fun _ => []) (fun _ => ttup [ti r.1,ti r.2]) := by
 unfold Qez at h
 refine fe Tryz.func89 Tryz.ntmps89 fun M0 M w0 a hpl H => ?_
 replace H : St M w0 54 [(0,Ql.ty l_),(1,QB.ty at_)] [] a w0 := H
 refine sr mx [] H (fun _ => .o (QV (R := Ql) (u := l_) z0)<|.o (QV (R := QB) (u := at_) z2)<|.o (Qa .k)<|.o (Qa .k)<|.n) fun _ a w H => ?_
 have H := H.to [0,1] [_,_] [] rfl rfl
 refine wp_seq_k (fun _ k2 => ?_)
 refine wp_block ?_
 refine sr mx [] H (fun _ => .o (Qe QeV z0)<|.o (Qd (u := (l_).B) tok3 z0 rfl)<|.o (QG z0 .k)<|.q 0 rfl<|.g rfl rfl bq0 (fun _ => Qe Qk9 z4)<|.g rfl rfl bq1 (fun hc => Qd (u := (l_).Least) tok4 (.cond z0 hc) rfl)<|.o (QW z2 (fun hp => (.cond z0 (beqT hp))))<|.o (Qa z0)<|.n) fun _ a w H => ?_
 have H := H.to [7,8,9] [_,_,_] [] rfl rfl
 refine wi H h (fun b12 h => ?_) (fun b12 h => ?_)
 ·refine sr mx [] H (fun _ => .o (Qe Qgu z1)<|.o (Qd (u := (l_).A) tok3 z0 rfl)<|.o (Qe Qgv z3)<|.o (Qd (u := (l_).Mul) tok3 z0 rfl)<|.o (Qa z2)<|.o (Qa z1)<|.n) fun _ a w H => ?_
  have H := H.to [4,5] [_,_] [] rfl rfl
  refine wp_ret ?_
  obtain rfl := sj h
  exact rt undef [] hpl H (.tmp z0 (.tmp z1 .nil))
 refine sr mx [] H (fun _ => .o (Qe Qk9 z1)<|.o (Qd (u := (l_).Least) tok4 z0 rfl)<|.o (Qa z0)<|.n) fun _ a w H => ?_
 have H := H.to [2,4,5] [_,_,_] [] rfl rfl
 refine wi H h (fun b11 h => ?_) (fun b11 h => ?_)
 ·have ⟨t27,ht27,h⟩ := bs h
  refine sr mx [] H (fun _ => .o (Qe Qgu z1)<|.o (Qd (u := (l_).A) tok3 z0 rfl)<|.o (Qe Qgv z3)<|.o (Qd (u := (l_).Mul) tok3 z0 rfl)<|.o (Qe QeV z5)<|.o (Qd (u := (l_).B) tok3 z0 rfl)<|.o (QpW (xs := (at_).L) Qin tok3 z8 z0 rfl ht27)<|.o (Qm tok3 z0)<|.o (QnB z4 z0)<|.o (Qa z7)<|.o (Qa z1)<|.n) fun _ a w H => ?_
  have H := H.to [9,10] [_,_] [] rfl rfl
  refine wp_ret ?_
  obtain rfl := sj h
  exact rt undef [] hpl H (.tmp z0 (.tmp z1 .nil))
 refine sr mx [] H (fun _ => .o (Qe QeV z1)<|.o (Qd (u := (l_).B) tok3 z0 rfl)<|.o (QaJ z0 .k)<|.q 0 rfl<|.g rfl rfl bq0 (fun _ => Qe Qgv z5)<|.g rfl rfl bq1 (fun hc => Qd (u := (l_).Mul) tok3 (.cond z0 hc) rfl)<|.g rfl rfl bq2 (fun hc => Qa0 (.cond z0 hc) .k)<|.o (QW z3 (fun hp => (.cond z0 (beqT hp))))<|.o (Qa z0)<|.n) fun _ a w H => ?_
 have H := H.to [8,10,11] [_,_,_] [] rfl rfl
 refine wi H h (fun b10 h => ?_) (fun b10 h => ?_)
 ·refine wp_seq_k (fun _ k8 => ?_)
  have ⟨t43,ht43,h⟩ := bs h
  have ⟨u51,hu51,h⟩ := bs h
  refine wr mx [] H (fun _ => .o (Qe QeV z1)<|.o (Qd (u := (l_).B) tok3 z0 rfl)<|.o (Qe Qgu z3)<|.o (Qd (u := (l_).A) tok3 z0 rfl)<|.o (QpW (xs := (at_).L) Qin tok3 z6 z0 rfl ht43)<|.o (Qm tok3 z0)<|.o (Qe Qgv z7)<|.o (Qd (u := (l_).Mul) tok3 z0 rfl)<|.o (QQ z2 z0)<|.o (QbQ z0 .k)<|.o (Qe Qgv z11)<|.o (Qd (u := (l_).Mul) tok3 z0 rfl)<|.o (Qjt z2 z0 (nz_ne hu51))<|.o (Qa z11)<|.o (Qa z1)<|.n) fun _ a w H => ?_
  have H := H.to [13,14] [_,_] [] rfl rfl
  refine k8 _ _ ?_
  refine wp_ret ?_
  obtain rfl := sj h
  exact rt undef [] hpl H (.tmp z0 (.tmp z1 .nil))
 refine wp_skip (k2 _ _ ?_)
 refine sr mx [] H (fun _ => .o (Qe Qgu z1)<|.o (Qd (u := (l_).A) tok3 z0 rfl)<|.o (Qa z0)<|.o (Qa .k)<|.n) fun _ a w H => ?_
 have H := H.to [2,3] [_,_] [] rfl rfl
 refine wp_ret ?_
 obtain rfl := sj h
 exact rt undef [] hpl H (.tmp z0 (.tmp z1 .nil))

/- (diorama/counts.Limit).holds -/
noncomputable def Qcp (l_ : Qi) (counts_ : (List Int)) : Option (Bool) := (if (l_).Least = true then (idx counts_ (l_).A).bind fun t10 => (QbJ l_ counts_).bind fun t14 => (some (decide (t10 ≥ t14))) else (idx counts_ (l_).A).bind fun t19 => (QbJ l_ counts_).bind fun t23 => (some (decide (t19 ≤ t23))))
theorem Qh4 {l_ : Qi} {counts_ : (List Int)} {r : Bool} (h : Qcp l_ counts_ = some r) : FnOk Tryz.prog 46 [Ql.ty l_,tsl rI counts_] [] (fun _ => []) (fun _ => tb r) := by
 unfold Qcp at h
 refine fe Tryz.func46 Tryz.ntmps46 fun M0 M w0 a hpl H => ?_
 replace H : St M w0 25 [(0,Ql.ty l_),(1,tsl rI counts_)] [] a w0 := H
 refine sr mx [] H (fun _ => .o (QV (R := Ql) (u := l_) z0)<|.o (Qa .k)<|.n) fun _ a w H => ?_
 have H := H.to [0,3] [_,_] [] rfl rfl
 refine wp_seq_k (fun _ k2 => ?_)
 refine sr mx [] H (fun _ => .o (Qe Qk9 z0)<|.o (Qd (u := (l_).Least) tok4 z0 rfl)<|.n) fun _ a w H => ?_
 have H := H.to [1,2,3] [_,_,_] [] rfl rfl
 refine wi H h (fun b6 h => ?_) (fun b6 h => ?_)
 ·have ⟨t10,ht10,h⟩ := bs h
  have ⟨t14,ht14,h⟩ := bs h
  refine sr mx [] H (fun _ => .q 2 rfl<|.o (Qe Qgu z2)<|.o (Qd (u := (l_).A) tok3 z0 rfl)<|.o (Qr ud22 tok3 z2 z0 ht10)<|.o (Qm tok3 z0)<|.o (Qm Qbn z6)<|.q 8 rfl<|.o (Qf Qqd (Qfy ht14) (.cons (.of z1)<|.cons (.of z0)<|.nil))<|.o (QaJ z3 z0)<|.o (Qa z0)<|.n) fun _ a w H => ?_
  have H := H.to [9] [_] [] rfl rfl
  refine wp_ret ?_
  obtain rfl := sj h
  exact rt undef [] hpl H (.tmp z0 .nil)
 refine wp_skip (k2 _ _ ?_)
 have ⟨t19,ht19,h⟩ := bs h
 have ⟨t23,ht23,h⟩ := bs h
 refine sr mx [] H (fun _ => .q 2 rfl<|.o (Qe Qgu z2)<|.o (Qd (u := (l_).A) tok3 z0 rfl)<|.o (Qr ud22 tok3 z2 z0 ht19)<|.o (Qm tok3 z0)<|.o (Qm Qbn z6)<|.q 8 rfl<|.o (Qf Qqd (Qfy ht23) (.cons (.of z1)<|.cons (.of z0)<|.nil))<|.o (QcK z3 z0)<|.o (Qa z0)<|.n) fun _ a w H => ?_
 have H := H.to [9] [_] [] rfl rfl
 refine wp_ret ?_
 obtain rfl := sj h
 exact rt undef [] hpl H (.tmp z0 .nil)

/- (diorama/counts.numbers).broken -/
noncomputable def Qcv (at_ : QC) (l_ : Qi) : Option (Bool) := (Qcp l_ (at_).L).bind fun t7 => (some (!t7))
theorem Qks {at_ : QC} {l_ : Qi} {r : Bool} (h : Qcv at_ l_ = some r) : FnOk Tryz.prog 90 [QB.ty at_,Ql.ty l_] [] (fun _ => []) (fun _ => tb r) := by
 unfold Qcv at h
 refine fe Tryz.func90 Tryz.ntmps90 fun M0 M w0 a hpl H => ?_
 replace H : St M w0 9 [(0,QB.ty at_),(1,Ql.ty l_)] [] a w0 := H
 refine sr mx [] H (fun _ => .o (QV (R := QB) (u := at_) z0)<|.o (QV (R := Ql) (u := l_) z2)<|.o (Qa .k)<|.n) fun _ a w H => ?_
 have H := H.to [0,1] [_,_] [] rfl rfl
 have ⟨t7,ht7,h⟩ := bs h
 refine sr mx [] H (fun _ => .o (Qm Qbn z1)<|.o (QnP (L := (at_).L) Qin tok3 z1 rfl (by decide) rfl)<|.o (Qf QrU (Qh4 ht7) (.cons (.of z1)<|.cons (.of z0)<|.nil))<|.o (Qae z0)<|.o (Qa z0)<|.n) fun _ a w H => ?_
 have H := H.to [4] [_] [] rfl rfl
 refine wp_ret ?_
 obtain rfl := sj h
 exact rt undef [] hpl H (.tmp z0 .nil)

/- diorama/counts.kept -/
noncomputable def QeA (l_ : (List Qi)) : Option (Bool) := (QF (fun (s6 : Bool × QC) => ((if s6.1 = true then (QF (fun (s126 : Int × Bool × QC) => ((if (decide (s126.1 < (l_.length : Int))) = true then (idx l_ s126.1).bind fun t14 => (Qez t14 s126.2.2).bind fun t19 => (if (decide (t19.2 > (65536:Int))) = true then (some (.inr (.inr false))) else (idx (s126.2.2).L t19.1).bind fun t26 => ((if (decide (t19.2 > t26)) = true then (idx (s126.2.2).L t19.1).bind fun t31 => (some (true,((s126.2.2).setI t19.1 t19.2))) else (some (s126.2.1,s126.2.2)))).bind fun (p171 : Bool × QC) => (some (.inl ((IntKind.i64.wrap (s126.1 + (1:Int))),p171.1,p171.2)))) else (some (.inr (.inl (s126.2.1,s126.2.2))))) : Option ((Int × Bool × QC) ⊕ ((Bool × QC) ⊕ (Bool))))) ((0:Int),false,s6.2)).bind fun (e127 : (Bool × QC) ⊕ (Bool)) => (match e127 with | .inl p158 => (some (.inl (p158.1,p158.2))) | .inr p159 => (some (.inr (.inr p159)))) else (some (.inr (.inl s6.2)))) : Option ((Bool × QC) ⊕ ((QC) ⊕ (Bool))))) (true,zz6)).bind fun (e7 : (QC) ⊕ (Bool)) => (match e7 with | .inl p118 => (Qbf l_ (fun x0 => Qcv p118 x0)).bind fun t36 => (some (!t36)) | .inr p119 => (some p119))
theorem QiY {l_ : (List Qi)} {r : Bool} (h : QeA l_ = some r) : FnOk Tryz.prog 57 [tsl Ql l_] [] (fun _ => []) (fun _ => tb r) := by
 unfold QeA at h
 refine fe Tryz.func57 Tryz.ntmps57 fun M0 M w0 a hpl H => ?_
 replace H : St M w0 38 [(0,tsl Ql l_)] [] a w0 := H
 refine sr mx [] H (fun _ => .o (Qa .k)<|.n) fun _ a w H => ?_
 have H := H.to [1] [_] [] rfl rfl
 refine sr mx [v1 0 (fun v0 => box (QB.cs zz6) v0)] H (fun _ => .m [] [0] rfl rfl rfl (Q0 (R := QB) (a := zz6) Qie zok103)<|.n) fun n1 a w H => ?_
 have H := H.to [0,1] [_,_] [_] rfl rfl
 refine wp_seq_k (fun K4 k4 => ?_)
 refine sr mx [] H (fun _ => .o (Qa .k)<|.n) fun _ a w H => ?_
 have H := H.to [0,1,2] [_,_,_] [_] rfl rfl
 have ⟨e7,he7,h⟩ := bs h
 have hJp118 : ∀ (p118 : QC) a w,(.inl p118) = e7 → St M w0 38 [(3,tv (n1 0)),(0,tsl Ql l_)] [box (QB.cs p118) (n1 0)] a w → K4 a w := by
  intro p118 a w he H
  subst he
  simp only at h
  refine k4 _ _ ?_
  have ⟨t36,ht36,h⟩ := bs h
  refine sr mx [] H (fun _ => .q 1 rfl<|.u [0] rfl rfl (QdN (R := QB) (u := p118) Qie z1 rfl)<|.o (QtE (.cons z0<|.nil))<|.o (Qf QrW (Qfz ht36) (.cons (.of z2)<|.cons (.of (Fct.weak z0 (tfn_bm call90 (fun _ _ hq => Qks hq))))<|.nil))<|.o (Qae z0)<|.o (Qa z0)<|.n) fun _ a w H => ?_
  replace H : St _ _ _ [_] [] _ _ := (H.pick [5]).selA [] rfl
  refine wp_ret ?_
  obtain rfl := sj h
  exact rt undef [] hpl H (.tmp z0 .nil)
 have hJp119 : ∀ (p119 : Bool) a w,(.inr p119) = e7 → St M w0 38 [(2,tb p119)] [] a w → Ret Tryz.prog Tryz.f57 M0 [] w0 (fun _ => []) (fun _ => tb r) .ret a w := by
  intro p119 a w he H
  subst he
  simp only at h
  obtain rfl := sj h
  exact rt undef [] hpl H (.tmp z0 .nil)
 refine wp_block ?_
 refine QR _ (fun (s6 : Bool × QC) a w => St M w0 38 [(4,tb s6.1),(3,tv (n1 0)),(0,tsl Ql l_)] [box (QB.cs s6.2) (n1 0)] a w) _ _ he7 (H.pick [0,1,2]) ?_
 clear h
 intro s6 o a w K121 hI h ho k121
 have H := hI
 clear hI
 refine wp_seq_k (fun _ k122 => ?_)
 refine sr mx [] H (fun _ => .q 0 rfl<|.n) fun _ a w H => ?_
 have H := H.to [0,2,3] [_,_,_] [_] rfl rfl
 refine wi H h (fun b176 h => ?_) (fun b176 h => ?_)
 ·refine wp_skip (k122 _ _ ?_)
  refine wp_block ?_
  refine sr mx [] H (fun _ => .o (Qa .k)<|.n) fun _ a w H => ?_
  have H := H.to [0,2,3] [_,_,_] [_] rfl rfl
  refine sr mx [] H (fun _ => .q 2 rfl<|.o (QE ud31 z0)<|.o (Qq .k)<|.n) fun _ a w H => ?_
  have H := H.to [0,1,2,3,4,5] [_,_,_,_,_,_] [_] rfl rfl
  have ⟨e127,he127,h⟩ := bs h
  have hJp158 : ∀ (p158 : Bool × QC) a w,(.inl p158) = e127 → St M w0 38 [(4,tb p158.1),(3,tv (n1 0)),(0,tsl Ql l_)] [box (QB.cs p158.2) (n1 0)] a w → K121 a w := by
   intro p158 a w he H
   subst he
   simp only at h
   exact k121 _ _ _ (sj h).symm (H.pick [0,1,2])
  have hJp159 : ∀ (p159 : Bool) a w,(.inr p159) = e127 → St M w0 38 [(2,tb p159)] [] a w → Ret Tryz.prog Tryz.f57 M0 [] w0 (fun _ => []) (fun _ => tb r) .ret a w := by
   intro p159 a w he H
   subst he
   simp only at h
   exact hJp119 _ _ _ (ho _ (sj h).symm) (H.pick [0])
  refine wp_block ?_
  refine QR _ (fun (s126 : Int × Bool × QC) a w => St M w0 38 [(10,tsl Ql l_),(11,ti (l_.length : Int)),(12,ti s126.1),(4,tb s126.2.1),(3,tv (n1 0)),(0,tsl Ql l_)] [box (QB.cs s126.2.2) (n1 0)] a w) _ _ he127 (H.pick [0,1,2,3,4,5]) ?_
  clear h
  intro s126 o a w K160 hI h ho k160
  have H := hI
  clear hI
  refine sr mx [] H (fun _ => .o (QG z2 z1)<|.n) fun _ a w H => ?_
  have H := H.to [0,1,2,3,4,5,6] [_,_,_,_,_,_,_] [_] rfl rfl
  refine wp_seq_k (fun _ k162 => ?_)
  refine wi H h (fun b175 h => ?_) (fun b175 h => ?_)
  ·refine wp_skip (k162 _ _ ?_)
   refine wp_seq_k (fun K163 k163 => ?_)
   refine wp_block ?_
   have ⟨t14,ht14,h⟩ := bs h
   refine sr mx [v1 2 (fun v0 => box (Ql.cs zz5) v0),v1 2 (fun v0 => box (Ql.cs t14) v0)] H (fun _ => .o (Qr ud31 Qbn z1 z3 ht14)<|.o (Qm Qbn z0)<|.m [] [1] rfl rfl rfl (Q0 (R := Ql) (a := zz5) Qbn Qre)<|.e [] [1] [2] rfl rfl rfl rfl (QS (R := Ql) (a := t14) Qbn z0 z1 (leb rfl))<|.n) fun _ a w H => ?_
   replace H : St _ _ _ [_,_,_,_,_,_,_] [_] _ _ := ((((H.pick [2,4,5,6,7,8,9]).selA [1,0] rfl).shareB 0 rfl).add 0 rfl (fun _ _ _ h => h.2)).pick [0,3,4,5,6,7,8]
   have ⟨t19,ht19,h⟩ := bs h
   refine sr mx [] H (fun _ => .o (Qm Qbn z0)<|.u [0] rfl rfl (QdN (R := QB) (u := s126.2.2) Qie z6 rfl)<|.o (Qf call89 (QmC ht19) (.cons (.of z1)<|.cons (.of z0)<|.nil))<|.q 0 rfl<|.o (QU z0 rfl)<|.o (QU z1 rfl)<|.o (Qa z1)<|.o (Qa z1)<|.n) fun _ a w H => ?_
   have H := H.to [6,7,9,10,11,12,13,14] [_,_,_,_,_,_,_,_] [_] rfl rfl
   refine wp_seq_k (fun _ k167 => ?_)
   refine sr mx [] H (fun _ => .q 1 rfl<|.o (Qa0 z0 .k)<|.n) fun _ a w H => ?_
   have H := H.to [1,2,3,4,5,6,7,8,9] [_,_,_,_,_,_,_,_,_] [_] rfl rfl
   refine wi H h (fun b174 h => ?_) (fun b174 h => ?_)
   ·refine sr mx [] H (fun _ => .o (Qa .k)<|.n) fun _ a w H => ?_
    replace H : St _ _ _ [_] [] _ _ := (H.pick [0]).selA [] rfl
    refine wp_ret ?_
    exact hJp159 _ _ _ (ho _ (sj h).symm) (H.pick [0])
   refine wp_skip (k167 _ _ ?_)
   have ⟨t26,ht26,h⟩ := bs h
   refine sr mx [] H (fun _ => .q 2 rfl<|.q 2 rfl<|.u [0] rfl rfl (QnO (L := (s126.2.2).L) Qin tok3 rfl z9 z0 rfl ht26)<|.u [0] rfl rfl (QrG (o := 0) (L := (s126.2.2).L) tok3 rfl z0 rfl ht26)<|.o (Qa0 z3 z0)<|.n) fun _ a w H => ?_
   have H := H.to [4,6,7,8,9,10,11,12,13] [_,_,_,_,_,_,_,_,_] [_] rfl rfl
   have ⟨p171,hp171,h⟩ := bs h
   have hJp171 : ∀ a w,St M w0 38 [(4,tb p171.1),(10,tsl Ql l_),(11,ti (l_.length : Int)),(12,ti s126.1),(3,tv (n1 0)),(0,tsl Ql l_)] [box (QB.cs p171.2) (n1 0)] a w → K163 a w := by
    intro a w H
    refine k163 _ _ ?_
    refine wr mx [] H (fun _ => .o (QQ z3 .k)<|.q 0 rfl<|.n) fun _ a w H => ?_
    have H := H.to [1,2,3,4,5,6] [_,_,_,_,_,_] [_] rfl rfl
    exact k160 _ _ _ (sj h).symm (H.pick [2,3,0,1,4,5])
   replace h := hp171
   clear hp171
   refine wi H h (fun b173 h => ?_) (fun b173 h => ?_)
   ·have ⟨t31,ht31,h⟩ := bs h
    refine wr mx [v0 (box (QB.cs ((s126.2.2).setI t19.1 t19.2)) (n1 0))] H (fun _ => .q 1 rfl<|.q 3 rfl<|.u [0] rfl rfl (QnO (L := (s126.2.2).L) Qin tok3 rfl z9 z1 rfl ht31)<|.e [] [0] [1] rfl rfl rfl rfl (QlA (a := t19.2) (Ts := (QB.cs s126.2.2)) (o := 0) (L := (s126.2.2).L) tok3 rfl z0 z1 ht31 (leb rfl) (QC.spl (pre := List.take 0 (QB.cs s126.2.2)) (post := List.drop 6 (QB.cs s126.2.2)) rfl ht31))<|.o (Qa .k)<|.n) fun _ a w H => ?_
    have H := H.to [3,7,8,9,10,11] [_,_,_,_,_,_] [_] rfl rfl
    obtain rfl := sj h
    exact hJp171 _ _ (H.pick [0,1,2,3,4,5])
   refine wp_skip ?_
   obtain rfl := sj h
   exact hJp171 _ _ (H.pick [6,3,4,5,7,8])
  refine wp_exit ?_
  exact hJp158 _ _ _ (ho _ (sj h).symm) (H.pick [4,5,6])
 refine wp_exit ?_
 exact hJp118 _ _ _ (ho _ (sj h).symm) (H.pick [1,2])

/- math/bits.TrailingZeros32 -/
/- math/bits.TrailingZeros64 -/
noncomputable def QcS (x_ : Int) : Option (Int) := (if (x_ == (0:Int)) = true then (some (64:Int)) else (idx QnS (ishr .u64 (IntKind.u64.wrap ((iand .u64 x_ (IntKind.u64.wrap (0 - x_))) * (285870213051353865:Int))) (58:Int))).bind fun t11 => (some (IntKind.i64.wrap t11)))
theorem QkE {x_ : Int} {r : Int} (h : QcS x_ = some r) : FnOk Tryz.prog 93 [tv (.int .u64 x_)] [glo] (fun _ => []) (fun _ => ti r) := by
 unfold QcS at h
 refine fe Tryz.func93 Tryz.ntmps93 fun M0 M w0 a hpl H => ?_
 replace H : St M w0 14 [(0,tv (.int .u64 x_))] [glo] a w0 := H
 refine sr mx [] H (fun _ => .o (Qa .k)<|.n) fun _ a w H => ?_
 have H := H.to [1] [_] [_] rfl rfl
 refine wp_seq_k (fun _ k2 => ?_)
 refine sr mx [] H (fun _ => .q 0 rfl<|.o (QM z0 .k)<|.n) fun _ a w H => ?_
 have H := H.to [1,2] [_,_] [_] rfl rfl
 refine wi H h (fun b6 h => ?_) (fun b6 h => ?_)
 ·refine sr mx [] H (fun _ => .o (Qa .k)<|.n) fun _ a w H => ?_
  have H := H.to [0] [_] [_] rfl rfl
  refine wp_ret ?_
  obtain rfl := sj h
  exact rt undef [] hpl H (.tmp z0 .nil)
 refine wp_skip (k2 _ _ ?_)
 have ⟨t11,ht11,h⟩ := bs h
 refine sr mx [] H (fun _ => .q 1 rfl<|.q 2 rfl<|.o (QpN z0)<|.o (Qow z2 z0)<|.o (QnB z0 .k)<|.o (Qox z0 .k (by decide))<|.u [0] rfl rfl (QpX Tryz.underlying177 tok5 QsV rfl z0 rfl ht11)<|.o (Qm tok5 z0)<|.o (Qou ud5 ud3 z0)<|.o (Qa z0)<|.n) fun _ a w H => ?_
 have H := H.to [9] [_] [_] rfl rfl
 refine wp_ret ?_
 obtain rfl := sj h
 exact rt undef [] hpl H (.tmp z0 .nil)

/- math/bits.TrailingZeros -/
noncomputable def Qcq (x_ : Int) : Option (Int) := (QcS x_).bind fun t7 => (some t7)
theorem Qh5 {x_ : Int} {r : Int} (h : Qcq x_ = some r) : FnOk Tryz.prog 59 [tv (.int .u64 x_)] [glo] (fun _ => []) (fun _ => ti r) := by
 unfold Qcq at h
 refine fe Tryz.func59 Tryz.ntmps59 fun M0 M w0 a hpl H => ?_
 replace H : St M w0 8 [(0,tv (.int .u64 x_))] [glo] a w0 := H
 refine sr mx [] H (fun _ => .o (Qa .k)<|.n) fun _ a w H => ?_
 have H := H.to [1] [_] [_] rfl rfl
 refine wp_seq_k (fun _ k2 => ?_)
 refine QrC ?_
 refine wp_skip (k2 _ _ ?_)
 have ⟨t7,ht7,h⟩ := bs h
 refine sr mx [] H (fun _ => .q 0 rfl<|.u [0] rfl rfl ((Qf call93 (QkE ht7) (.cons (.of z0)<|.nil)).glo)<|.o (Qa z0)<|.n) fun _ a w H => ?_
 have H := H.to [2] [_] [_] rfl rfl
 refine wp_ret ?_
 obtain rfl := sj h
 exact rt undef [] hpl H (.tmp z0 .nil)

/- diorama/counts.some -/
noncomputable def QfA (l_ : (List Qi)) (set_ : Int) : Option ((List Qi)) := (QF (fun (s6 : Int × List Qi) => ((if (s6.1 != (0:Int)) = true then (Qcq s6.1).bind fun t17 => (idx l_ t17).bind fun t18 => (rm (s6.2.length + [t18].length)).bind fun _ => (some (.inl ((iand .u64 s6.1 (IntKind.u64.wrap (s6.1 - (1:Int)))),(s6.2 ++ [t18])))) else (some (.inr s6.2))) : Option ((Int × List Qi) ⊕ ((List Qi))))) (set_,([] : List Qi))).bind fun (p17 : (List Qi)) => (some p17)
theorem Qlj {l_ : (List Qi)} {set_ : Int} {r : (List Qi)} (h : QfA l_ set_ = some r) : FnOk Tryz.prog 91 [tsl Ql l_,tv (.int .u64 set_)] [glo] (fun _ => []) (fun _ => tsl Ql r) := by
 unfold QfA at h
 refine fe Tryz.func91 Tryz.ntmps91 fun M0 M w0 a hpl H => ?_
 replace H : St M w0 23 [(0,tsl Ql l_),(1,tv (.int .u64 set_))] [glo] a w0 := H
 refine sr mx [] H (fun _ => .o (Qa (.nilsl (R := Ql)))<|.n) fun _ a w H => ?_
 have H := H.to [1,2] [_,_] [_] rfl rfl
 refine sr mx [] H (fun _ => .o (Qa .k)<|.n) fun _ a w H => ?_
 replace H : St _ _ _ [_,_,_] [_,_] _ _ := (H.pick [0,1,2]).nil (Ql) 43
 refine wp_seq_k (fun K4 k4 => ?_)
 refine sr mx [] H (fun _ => .q 2 rfl<|.o (Qa z0)<|.n) fun _ a w H => ?_
 have H := H.to [1,2,3] [_,_,_] [_,_] rfl rfl
 have ⟨e7,he7,h⟩ := bs h
 have hJp17 : ∀ (p17 : List Qi) (v18 : Value) a w,p17 = e7 → St M w0 23 [(5,tv v18)] [own Ql 43 p17 v18,glo] a w → K4 a w := by
  intro p17 v18 a w he H
  subst he
  refine k4 _ _ ?_
  refine sr mx [] H (fun _ => .q 0 rfl<|.o (Qa z0)<|.n) fun _ a w H => ?_
  have H := H.to [0,1,2] [_,_,_] [_,_] rfl rfl
  refine wp_ret ?_
  replace H : St _ _ _ [_] [_] _ _ := (H.shareO 1 rfl).pick [0]
  obtain rfl := sj h
  exact rt undef [] hpl H (.tmp z0 .nil)
 refine wp_block ?_
 refine QR _ (fun (s6 : Int × List Qi) a w => ∃ v12 : Value,St M w0 23 [(6,tv (.int .u64 s6.1)),(5,tv v12),(0,tsl Ql l_)] [own Ql 43 s6.2 v12,glo] a w) _ _ he7 ⟨(.slice none 0 0),H.pick [0,1,2]⟩ ?_
 clear h
 intro s6 o a w K20 hI h ho k20
 obtain ⟨v12,H⟩ := hI
 refine wp_seq_k (fun _ k21 => ?_)
 refine sr mx [] H (fun _ => .q 0 rfl<|.o (Qau z0 .k)<|.n) fun _ a w H => ?_
 have H := H.to [1,2,3,4] [_,_,_,_] [_,_] rfl rfl
 refine wi H h (fun b24 h => ?_) (fun b24 h => ?_)
 ·refine wp_skip (k21 _ _ ?_)
  refine wp_seq_k (fun _ k23 => ?_)
  refine wp_block ?_
  have ⟨t17,ht17,h⟩ := bs h
  have ⟨t18,ht18,h⟩ := bs h
  have ⟨u21,hu21,h⟩ := bs h
  refine wr mx [v1 7 (fun v0 => own Ql 43 (s6.2 ++ [t18]) v0)] H (fun _ => .q 2 rfl<|.q 4 rfl<|.q 3 rfl<|.u [1] rfl rfl ((Qf QrY (Qh5 ht17) (.cons (.of z0)<|.nil)).glo)<|.o (Qr ud31 Qbn z2 z0 ht18)<|.o (Qm Qbn z0)<|.o (Qy (R := Ql) (us := [t18]) ud31 Qbn (.cons z0<|.nil _) rfl (leb rfl))<|.e [] [0] [2] rfl rfl rfl rfl (Qag (R := Ql) ud31 Qbn (leb rfl) z6 z0 hu21)<|.ud (f := fun v => tv v) 7 rfl [] rfl rfl (Qa z0)<|.n) fun n5 a w H => ?_
  have H := H.to [7,8,10,11] [_,_,_,_] [_,_] rfl rfl
  refine k23 _ _ ?_
  refine wr mx [] H (fun _ => .q 2 rfl<|.q 3 rfl<|.o (QbQ z0 .k)<|.o (Qow z2 z0)<|.o (Qa z0)<|.n) fun _ a w H => ?_
  have H := H.to [4,5,6,7] [_,_,_,_] [_,_] rfl rfl
  exact k20 _ _ _ (sj h).symm ⟨(n5 7),(H.pick [0,2,3]).selA [1,0] rfl⟩
 refine wp_exit ?_
 exact hJp17 _ v12 _ _ (ho _ (sj h).symm) (H.pick [2])

/- diorama/counts.smallest -/
noncomputable def Qd2 (self : (List Qi) → Int → Int → Int → Option (Int)) (l_ : (List Qi)) (set_ : Int) (from_ : Int) (many_ : Int) : Option (Int) := (nn (IntKind.i64.wrap ((64:Int) - (l_.length : Int)))).bind fun _ => (nn from_).bind fun _ => (nn from_).bind fun _ => (QfA l_ (ior .u64 set_ (ishl .u64 (ishr .u64 (ishr .u64 (18446744073709551615:Int) (IntKind.i64.wrap ((64:Int) - (l_.length : Int)))) from_) from_))).bind fun t24 => (QeA t24).bind fun t25 => (if t25 = true then (some (0:Int)) else (if (many_ == (0:Int)) = true then (QfA l_ set_).bind fun t30 => (QeA t30).bind fun t31 => (if t31 = true then (some (0:Int)) else (some set_)) else (QF (fun (s15 : Int) => ((if (decide ((IntKind.i64.wrap (s15 + many_)) ≤ (l_.length : Int))) = true then (nn s15).bind fun _ => (self l_ (ior .u64 set_ (ishl .u64 (1:Int) s15)) (IntKind.i64.wrap (s15 + (1:Int))) (IntKind.i64.wrap (many_ - (1:Int)))).bind fun t51 => (if (t51 != (0:Int)) = true then (some (.inr (.inr t51))) else (some (.inl (IntKind.i64.wrap (s15 + (1:Int)))))) else (some (.inr (.inl ())))) : Option ((Int) ⊕ ((Unit) ⊕ (Int))))) from_).bind fun (e16 : (Unit) ⊕ (Int)) => (match e16 with | .inl _ => (some (0:Int)) | .inr p34 => (some p34))))
theorem Ql7 {self : (List Qi) → Int → Int → Int → Option (Int)} (hself : ∀ (l_ : (List Qi)) (set_ : Int) (from_ : Int) (many_ : Int) (r : Int),self l_ set_ from_ many_ = some r → FnOk Tryz.prog 58 [tsl Ql l_,tv (.int .u64 set_),ti from_,ti many_] [glo] (fun _ => []) (fun _ => tv (.int .u64 r))) {l_ : (List Qi)} {set_ : Int} {from_ : Int} {many_ : Int} {r : Int} (h : Qd2 self l_ set_ from_ many_ = some r) : FnOk Tryz.prog 58 [tsl Ql l_,tv (.int .u64 set_),ti from_,ti many_] [glo] (fun _ => []) (fun _ => tv (.int .u64 r)) := by
 unfold Qd2 at h
 refine fe Tryz.func58 Tryz.ntmps58 fun M0 M w0 a hpl H => ?_
 replace H : St M w0 55 [(0,tsl Ql l_),(1,tv (.int .u64 set_)),(2,ti from_),(3,ti many_)] [glo] a w0 := H
 refine sr mx [] H (fun _ => .o (Qa .k)<|.n) fun _ a w H => ?_
 have H := H.to [1,2,3,4] [_,_,_,_] [_] rfl rfl
 refine wp_seq_k (fun _ k2 => ?_)
 have ⟨u15,hu15,h⟩ := bs h
 have ⟨u17,hu17,h⟩ := bs h
 have ⟨u19,hu19,h⟩ := bs h
 refine wr mx [] H (fun _ => .q 0 rfl<|.o (QE ud31 z0)<|.o (QbQ .k z0)<|.o (Qox .k z0 (QpC hu15))<|.q 6 rfl<|.o (Qox z1 z0 (QpC hu17))<|.q 8 rfl<|.o (QqJ z1 z0 (QpC hu19))<|.o (Qa z0)<|.n) fun _ a w H => ?_
 have H := H.to [8,9,10,11,12] [_,_,_,_,_] [_] rfl rfl
 refine k2 _ _ ?_
 refine wp_seq_k (fun _ k3 => ?_)
 have ⟨t24,ht24,h⟩ := bs h
 have ⟨t25,ht25,h⟩ := bs h
 refine sr mx [] H (fun _ => .q 1 rfl<|.q 3 rfl<|.q 2 rfl<|.o (QrB z1 z0)<|.u [0] rfl rfl ((Qf Qr1 (Qlj ht24) (.cons (.of z3)<|.cons (.of z0)<|.nil)).glo)<|.o (Qf Qqb (QiY ht25) (.cons (.of z0)<|.nil))<|.n) fun _ a w H => ?_
 have H := H.to [5,7,8,9,10] [_,_,_,_,_] [_] rfl rfl
 refine wi H h (fun b46 h => ?_) (fun b46 h => ?_)
 ·refine sr mx [] H (fun _ => .o (Qa .k)<|.n) fun _ a w H => ?_
  have H := H.to [0] [_] [_] rfl rfl
  refine wp_ret ?_
  obtain rfl := sj h
  exact rt undef [] hpl H (.tmp z0 .nil)
 refine wp_skip (k3 _ _ ?_)
 refine wp_seq_k (fun _ k6 => ?_)
 refine sr mx [] H (fun _ => .q 4 rfl<|.o (QM z0 .k)<|.n) fun _ a w H => ?_
 have H := H.to [1,3,4,5,6] [_,_,_,_,_] [_] rfl rfl
 refine wi H h (fun b45 h => ?_) (fun b45 h => ?_)
 ·refine wp_seq_k (fun _ k8 => ?_)
  have ⟨t30,ht30,h⟩ := bs h
  have ⟨t31,ht31,h⟩ := bs h
  refine sr mx [] H (fun _ => .q 1 rfl<|.q 3 rfl<|.u [0] rfl rfl ((Qf Qr1 (Qlj ht30) (.cons (.of z1)<|.cons (.of z0)<|.nil)).glo)<|.o (Qf Qqb (QiY ht31) (.cons (.of z0)<|.nil))<|.n) fun _ a w H => ?_
  have H := H.to [3,6] [_,_] [_] rfl rfl
  refine wi H h (fun b12 h => ?_) (fun b12 h => ?_)
  ·refine sr mx [] H (fun _ => .o (Qa .k)<|.n) fun _ a w H => ?_
   have H := H.to [0] [_] [_] rfl rfl
   refine wp_ret ?_
   obtain rfl := sj h
   exact rt undef [] hpl H (.tmp z0 .nil)
  refine wp_skip (k8 _ _ ?_)
  refine sr mx [] H (fun _ => .q 1 rfl<|.o (Qa z0)<|.n) fun _ a w H => ?_
  have H := H.to [1] [_] [_] rfl rfl
  refine wp_ret ?_
  obtain rfl := sj h
  exact rt undef [] hpl H (.tmp z0 .nil)
 refine wp_skip (k6 _ _ ?_)
 refine wp_seq_k (fun K13 k13 => ?_)
 refine sr mx [] H (fun _ => .q 3 rfl<|.o (Qa z0)<|.n) fun _ a w H => ?_
 have H := H.to [1,3,4,6] [_,_,_,_] [_] rfl rfl
 have ⟨e16,he16,h⟩ := bs h
 have hJp33 : ∀ (p33 : Unit) a w,(.inl p33) = e16 → St M w0 55 [] [glo] a w → K13 a w := by
  intro p33 a w he H
  subst he
  simp only at h
  refine k13 _ _ ?_
  refine sr mx [] H (fun _ => .o (Qa .k)<|.n) fun _ a w H => ?_
  have H := H.to [0] [_] [_] rfl rfl
  refine wp_ret ?_
  obtain rfl := sj h
  exact rt undef [] hpl H (.tmp z0 .nil)
 have hJp34 : ∀ (p34 : Int) a w,(.inr p34) = e16 → St M w0 55 [(8,tv (.int .u64 p34))] [glo] a w → Ret Tryz.prog Tryz.f58 M0 [glo] w0 (fun _ => []) (fun _ => tv (.int .u64 r)) .ret a w := by
  intro p34 a w he H
  subst he
  simp only at h
  obtain rfl := sj h
  exact rt undef [] hpl H (.tmp z0 .nil)
 refine wp_block ?_
 refine QR _ (fun (s15 : Int) a w => St M w0 55 [(10,ti s15),(0,tsl Ql l_),(1,tv (.int .u64 set_)),(3,ti many_)] [glo] a w) _ _ he16 (H.pick [0,1,2,3]) ?_
 clear h
 intro s15 o a w K36 hI h ho k36
 have H := hI
 clear hI
 refine wp_seq_k (fun _ k37 => ?_)
 refine sr mx [] H (fun _ => .q 0 rfl<|.q 4 rfl<|.o (QQ z1 z0)<|.q 4 rfl<|.o (QE ud31 z0)<|.o (QcK z2 z0)<|.n) fun _ a w H => ?_
 have H := H.to [5,6,7,8,9] [_,_,_,_,_] [_] rfl rfl
 refine wi H h (fun b44 h => ?_) (fun b44 h => ?_)
 ·refine wp_skip (k37 _ _ ?_)
  refine wp_seq_k (fun _ k39 => ?_)
  refine wp_block ?_
  refine wp_seq_k (fun _ k40 => ?_)
  have ⟨u45,hu45,h⟩ := bs h
  have ⟨t51,ht51,h⟩ := bs h
  refine wr mx [] H (fun _ => .q 2 rfl<|.q 4 rfl<|.q 3 rfl<|.o (QqJ .k z0 (QpC hu45))<|.o (QrB z2 z0)<|.q 6 rfl<|.o (QQ z0 .k)<|.q 11 rfl<|.o (QbQ z0 .k)<|.u [0] rfl rfl ((Qf QrX (hself _ _ _ _ _ ht51) (.cons (.of z8)<|.cons (.of z4)<|.cons (.of z2)<|.cons (.of z0)<|.nil)).glo)<|.o (Qa z0)<|.n) fun _ a w H => ?_
  have H := H.to [10,12,13,14,15] [_,_,_,_,_] [_] rfl rfl
  refine k40 _ _ ?_
  refine sr mx [] H (fun _ => .q 0 rfl<|.o (Qau z0 .k)<|.n) fun _ a w H => ?_
  have H := H.to [1,2,3,4,5,6] [_,_,_,_,_,_] [_] rfl rfl
  refine wi H h (fun b43 h => ?_) (fun b43 h => ?_)
  ·refine sr mx [] H (fun _ => .q 1 rfl<|.o (Qa z0)<|.n) fun _ a w H => ?_
   have H := H.to [1] [_] [_] rfl rfl
   refine wp_ret ?_
   exact hJp34 _ _ _ (ho _ (sj h).symm) (H.pick [0])
  refine wp_skip (k39 _ _ ?_)
  refine wr mx [] H (fun _ => .q 2 rfl<|.o (QQ z0 .k)<|.o (Qa z0)<|.n) fun _ a w H => ?_
  have H := H.to [2,5,6,7] [_,_,_,_] [_] rfl rfl
  exact k36 _ _ _ (sj h).symm (H.pick [0,1,2,3])
 refine wp_exit ?_
 exact hJp33 _ _ _ (ho _ (sj h).symm) (H.pick [])
noncomputable def Qfr : Nat → (List Qi) → Int → Int → Int → Option (Int)
 | 0 => fun _ _ _ _ => none
 | n + 1 => Qd2 (Qfr n)
theorem Qiw : ∀ (n : Nat) (l_ : (List Qi)) (set_ : Int) (from_ : Int) (many_ : Int) (r : Int),Qfr n l_ set_ from_ many_ = some r → FnOk Tryz.prog 58 [tsl Ql l_,tv (.int .u64 set_),ti from_,ti many_] [glo] (fun _ => []) (fun _ => tv (.int .u64 r))
 | 0,_,_,_,_,r,h => by cases h
 | n + 1,l_,set_,from_,many_,r,h => Ql7 (fun l_ set_ from_ many_ r h => Qiw n l_ set_ from_ many_ r h) h
noncomputable def QhK (l_ : (List Qi)) (set_ : Int) (from_ : Int) (many_ : Int) : Option (Int) := Qfr (many_.natAbs + 2) l_ set_ from_ many_
theorem QmD {l_ : (List Qi)} {set_ : Int} {from_ : Int} {many_ : Int} {r : Int} (h : QhK l_ set_ from_ many_ = some r) : FnOk Tryz.prog 58 [tsl Ql l_,tv (.int .u64 set_),ti from_,ti many_] [glo] (fun _ => []) (fun _ => tv (.int .u64 r)) := Qiw _ _ _ _ _ _ h

/- diorama/counts.Clash -/
noncomputable def Qgn (n_ : Int) (l_ : (List Qi)) : Option ((List Int) × Int) := (opt (((decide (n_ < (1:Int))) || (decide (n_ > (6:Int)))) == false) (Qbf l_ (fun x0 => Qfa x0 n_)) default).bind fun t19 => (if (((decide (n_ < (1:Int))) || (decide (n_ > (6:Int)))) || t19) = true then (some (([] : List Int),(1:Int))) else (if (decide ((l_.length : Int) > (24:Int))) = true then (some (([] : List Int),(4:Int))) else (QeA l_).bind fun t27 => (if t27 = true then (some (([] : List Int),(6:Int))) else (QF (fun (s12 : Int × Int) => ((if (s12.2 == (0:Int)) = true then (QhK l_ (0:Int) (0:Int) s12.1).bind fun t34 => (some (.inl ((IntKind.i64.wrap (s12.1 + (1:Int))),t34))) else (some (.inr s12.2))) : Option ((Int × Int) ⊕ ((Int))))) ((1:Int),(0:Int))).bind fun (p22 : (Int)) => (QF (fun (s26 : Int × List Int) => ((if (s26.1 != (0:Int)) = true then (Qcq s26.1).bind fun t43 => (rm (s26.2.length + [t43].length)).bind fun _ => (some (.inl ((iand .u64 s26.1 (IntKind.u64.wrap (s26.1 - (1:Int)))),(s26.2 ++ [t43])))) else (some (.inr s26.2))) : Option ((Int × List Int) ⊕ ((List Int))))) (p22,([] : List Int))).bind fun (p37 : (List Int)) => (some (p37,(0:Int))))))
theorem Qoh {n_ : Int} {l_ : (List Qi)} {r : (List Int) × Int} (h : Qgn n_ l_ = some r) : FnOk Tryz.prog 27 [ti n_,tsl Ql l_] [glo] (fun _ => []) (fun _ => ttup [tsl rI r.1,ti r.2]) := by
 unfold Qgn at h
 refine fe Tryz.func27 Tryz.ntmps27 fun M0 M w0 a hpl H => ?_
 replace H : St M w0 47 [(0,ti n_),(1,tsl Ql l_)] [glo] a w0 := H
 refine sr mx [] H (fun _ => .o (QV (R := rI) (u := n_) z0)<|.o (Qa (.nilsl (R := rI)))<|.o (Qa .k)<|.n) fun _ a w H => ?_
 have H := H.to [0,4] [_,_] [_] rfl rfl
 refine wp_seq_k (fun _ k2 => ?_)
 refine wp_block ?_
 have ⟨t19,ht19,h⟩ := bs h
 refine sr mx [] H (fun _ => .o (Qm tok3 z0)<|.o (QG z0 .k)<|.q 0 rfl<|.g rfl rfl bq0 (fun _ => Qm tok3 z3)<|.g rfl rfl bq1 (fun hc => Qa0 (.cond z0 hc) .k)<|.o (Q6 z2 (fun hp => (.cond z0 (beqF hp))))<|.q 0 rfl<|.g rfl rfl bq0 (fun _ => Qq z8)<|.g rfl rfl bq1 (fun _ => QdX (.cons z8<|.nil))<|.g rfl rfl bq2 (fun hc => Qf QrW (Qfz (Qaj ht19 hc)) (.cons (.of (.cond z1 hc))<|.cons (.of (Fct.weak (.cond z0 hc) (Qb7 call56 (fun _ _ hq => Qm8 hq))))<|.nil))<|.o (Q6 z3 (fun hp => (.cond z0 (beqF hp))))<|.o (Qa z0)<|.n) fun _ a w H => ?_
 have H := H.to [11,13] [_,_] [_] rfl rfl
 refine wi H h (fun b52 h => ?_) (fun b52 h => ?_)
 ·refine sr mx [] H (fun _ => .o (Qa (.nilsl (R := rI)))<|.o (Qa .k)<|.n) fun _ a w H => ?_
  have H := H.to [0,1] [_,_] [_] rfl rfl
  refine wp_ret ?_
  obtain rfl := sj h
  exact rt undef [] hpl H (.tmp z0 (.tmp z1 .nil))
 refine sr mx [] H (fun _ => .q 1 rfl<|.o (QE ud31 z0)<|.o (Qa0 z0 .k)<|.o (Qa z0)<|.n) fun _ a w H => ?_
 have H := H.to [3,5] [_,_] [_] rfl rfl
 refine wi H h (fun b51 h => ?_) (fun b51 h => ?_)
 ·refine sr mx [] H (fun _ => .o (Qa (.nilsl (R := rI)))<|.o (Qa .k)<|.n) fun _ a w H => ?_
  have H := H.to [0,1] [_,_] [_] rfl rfl
  refine wp_ret ?_
  obtain rfl := sj h
  exact rt undef [] hpl H (.tmp z0 (.tmp z1 .nil))
 have ⟨t27,ht27,h⟩ := bs h
 refine sr mx [] H (fun _ => .q 1 rfl<|.o (Qf Qqb (QiY ht27) (.cons (.of z0)<|.nil))<|.o (Qa z0)<|.n) fun _ a w H => ?_
 have H := H.to [2,4] [_,_] [_] rfl rfl
 refine wi H h (fun b50 h => ?_) (fun b50 h => ?_)
 ·refine sr mx [] H (fun _ => .o (Qa (.nilsl (R := rI)))<|.o (Qa .k)<|.n) fun _ a w H => ?_
  have H := H.to [0,1] [_,_] [_] rfl rfl
  refine wp_ret ?_
  obtain rfl := sj h
  exact rt undef [] hpl H (.tmp z0 (.tmp z1 .nil))
 refine wp_skip (k2 _ _ ?_)
 refine sr mx [] H (fun _ => .o (Qa .k)<|.n) fun _ a w H => ?_
 have H := H.to [0,2] [_,_] [_] rfl rfl
 refine wp_seq_k (fun K10 k10 => ?_)
 refine sr mx [] H (fun _ => .o (Qa .k)<|.n) fun _ a w H => ?_
 have H := H.to [0,1,2] [_,_,_] [_] rfl rfl
 have ⟨e13,he13,h⟩ := bs h
 have hJp22 : ∀ (p22 : Int) a w,p22 = e13 → St M w0 47 [(6,tv (.int .u64 p22))] [glo] a w → K10 a w := by
  intro p22 a w he H
  subst he
  refine k10 _ _ ?_
  refine sr mx [] H (fun _ => .o (Qa .k)<|.n) fun _ a w H => ?_
  replace H : St _ _ _ [_,_] [_,_] _ _ := (H.pick [0,1]).nil (rI) 3
  refine wp_seq_k (fun K25 k25 => ?_)
  have ⟨e27,he27,h⟩ := bs h
  have hJp37 : ∀ (p37 : List Int) (v38 : Value) a w,p37 = e27 → St M w0 47 [(8,tv v38)] [own rI 3 p37 v38,glo] a w → K25 a w := by
   intro p37 v38 a w he H
   subst he
   refine k25 _ _ ?_
   refine sr mx [] H (fun _ => .q 0 rfl<|.o (Qa z0)<|.o (Qa .k)<|.n) fun _ a w H => ?_
   have H := H.to [0,1,2,3] [_,_,_,_] [_,_] rfl rfl
   refine wp_ret ?_
   replace H : St _ _ _ [_,_] [_] _ _ := (H.shareO 1 rfl).pick [0,3]
   obtain rfl := sj h
   exact rt undef [] hpl H (.tmp z0 (.tmp z1 .nil))
  refine wp_block ?_
  refine QR _ (fun (s26 : Int × List Int) a w => ∃ v32 : Value,St M w0 47 [(8,tv v32),(6,tv (.int .u64 s26.1))] [own rI 3 s26.2 v32,glo] a w) _ _ he27 ⟨(.slice none 0 0),H.pick [0,1]⟩ ?_
  clear h
  intro s26 o a w K40 hI h ho k40
  obtain ⟨v32,H⟩ := hI
  refine wp_seq_k (fun _ k41 => ?_)
  refine sr mx [] H (fun _ => .q 1 rfl<|.o (Qau z0 .k)<|.n) fun _ a w H => ?_
  have H := H.to [1,2,3] [_,_,_] [_,_] rfl rfl
  refine wi H h (fun b44 h => ?_) (fun b44 h => ?_)
  ·refine wp_skip (k41 _ _ ?_)
   refine wp_seq_k (fun _ k43 => ?_)
   refine wp_block ?_
   have ⟨t43,ht43,h⟩ := bs h
   have ⟨u45,hu45,h⟩ := bs h
   refine wr mx [v1 4 (fun v0 => own rI 3 (s26.2 ++ [t43]) v0)] H (fun _ => .q 1 rfl<|.q 3 rfl<|.u [1] rfl rfl ((Qf QrY (Qh5 ht43) (.cons (.of z0)<|.nil)).glo)<|.o (Qy (R := rI) (us := [t43]) ud22 tok3 (.cons z0<|.nil _) rfl (leb rfl))<|.e [] [0] [2] rfl rfl rfl rfl (Qag (R := rI) ud22 tok3 (leb rfl) z3 z0 hu45)<|.ud (f := fun v => tv v) 4 rfl [] rfl rfl (Qa z0)<|.n) fun n15 a w H => ?_
   have H := H.to [4,5,7] [_,_,_] [_,_] rfl rfl
   refine k43 _ _ ?_
   refine wr mx [] H (fun _ => .q 2 rfl<|.q 3 rfl<|.o (QbQ z0 .k)<|.o (Qow z2 z0)<|.o (Qa z0)<|.n) fun _ a w H => ?_
   have H := H.to [4,5,6] [_,_,_] [_,_] rfl rfl
   exact k40 _ _ _ (sj h).symm ⟨(n15 4),(H.pick [2,0]).selA [1,0] rfl⟩
  refine wp_exit ?_
  exact hJp37 _ v32 _ _ (ho _ (sj h).symm) (H.pick [1])
 refine wp_block ?_
 refine QR _ (fun (s12 : Int × Int) a w => St M w0 47 [(7,ti s12.1),(6,tv (.int .u64 s12.2)),(1,tsl Ql l_)] [glo] a w) _ _ he13 (H.pick [0,1,2]) ?_
 clear h
 intro s12 o a w K45 hI h ho k45
 have H := hI
 clear hI
 refine wp_seq_k (fun _ k46 => ?_)
 refine sr mx [] H (fun _ => .q 1 rfl<|.o (QM z0 .k)<|.n) fun _ a w H => ?_
 have H := H.to [1,2,3,4] [_,_,_,_] [_] rfl rfl
 refine wi H h (fun b49 h => ?_) (fun b49 h => ?_)
 ·refine wp_skip (k46 _ _ ?_)
  refine wp_seq_k (fun _ k48 => ?_)
  refine wp_block ?_
  have ⟨t34,ht34,h⟩ := bs h
  refine wr mx [] H (fun _ => .q 3 rfl<|.q 2 rfl<|.u [0] rfl rfl ((Qf QrX (QmD ht34) (.cons (.of z1)<|.cons (.of .k)<|.cons (.of .k)<|.cons (.of z0)<|.nil)).glo)<|.o (Qa z0)<|.n) fun _ a w H => ?_
  have H := H.to [3,5,6] [_,_,_] [_] rfl rfl
  refine k48 _ _ ?_
  refine wr mx [] H (fun _ => .q 1 rfl<|.o (QQ z0 .k)<|.o (Qa z0)<|.n) fun _ a w H => ?_
  have H := H.to [2,3,4] [_,_,_] [_] rfl rfl
  exact k45 _ _ _ (sj h).symm (H.pick [0,1,2])
 refine wp_exit ?_
 exact hJp22 _ _ _ (ho _ (sj h).symm) (H.pick [2])

/- diorama/dioramaref01.SameInts -/
noncomputable def Qc3 (a_ : (List Int)) (b_ : (List Int)) : Option (Bool) := (if ((a_.length : Int) != (b_.length : Int)) = true then (some false) else (QF (fun (s7 : Int) => ((if (decide (s7 < (a_.length : Int))) = true then (idx a_ s7).bind fun t19 => (idx b_ s7).bind fun t23 => (if (t19 != t23) = true then (some (.inr (.inr false))) else (some (.inl (IntKind.i64.wrap (s7 + (1:Int)))))) else (some (.inr (.inl ())))) : Option ((Int) ⊕ ((Unit) ⊕ (Bool))))) (0:Int)).bind fun (e8 : (Unit) ⊕ (Bool)) => (match e8 with | .inl _ => (some true) | .inr p24 => (some p24)))
theorem Qho {a_ : (List Int)} {b_ : (List Int)} {r : Bool} (h : Qc3 a_ b_ = some r) : FnOk Tryz.prog 25 [tsl rI a_,tsl rI b_] [] (fun _ => []) (fun _ => tb r) := by
 unfold Qc3 at h
 refine fe Tryz.func25 Tryz.ntmps25 fun M0 M w0 a hpl H => ?_
 replace H : St M w0 26 [(0,tsl rI a_),(1,tsl rI b_)] [] a w0 := H
 refine sr mx [] H (fun _ => .o (Qa .k)<|.n) fun _ a w H => ?_
 have H := H.to [1,2] [_,_] [] rfl rfl
 refine wp_seq_k (fun _ k2 => ?_)
 refine sr mx [] H (fun _ => .q 0 rfl<|.o (QE ud22 z0)<|.q 3 rfl<|.o (QE ud22 z0)<|.o (Qau z2 z0)<|.n) fun _ a w H => ?_
 have H := H.to [4,5,6] [_,_,_] [] rfl rfl
 refine wi H h (fun b34 h => ?_) (fun b34 h => ?_)
 ·refine sr mx [] H (fun _ => .o (Qa .k)<|.n) fun _ a w H => ?_
  have H := H.to [0] [_] [] rfl rfl
  refine wp_ret ?_
  obtain rfl := sj h
  exact rt undef [] hpl H (.tmp z0 .nil)
 refine wp_skip (k2 _ _ ?_)
 refine wp_seq_k (fun K5 k5 => ?_)
 refine sr mx [] H (fun _ => .o (Qa .k)<|.n) fun _ a w H => ?_
 have H := H.to [0,2,3] [_,_,_] [] rfl rfl
 have ⟨e8,he8,h⟩ := bs h
 have hJp23 : ∀ (p23 : Unit) a w,(.inl p23) = e8 → St M w0 26 [] [] a w → K5 a w := by
  intro p23 a w he H
  subst he
  simp only at h
  refine k5 _ _ ?_
  refine sr mx [] H (fun _ => .o (Qa .k)<|.n) fun _ a w H => ?_
  have H := H.to [0] [_] [] rfl rfl
  refine wp_ret ?_
  obtain rfl := sj h
  exact rt undef [] hpl H (.tmp z0 .nil)
 have hJp24 : ∀ (p24 : Bool) a w,(.inr p24) = e8 → St M w0 26 [(4,tb p24)] [] a w → Ret Tryz.prog Tryz.f25 M0 [] w0 (fun _ => []) (fun _ => tb r) .ret a w := by
  intro p24 a w he H
  subst he
  simp only at h
  obtain rfl := sj h
  exact rt undef [] hpl H (.tmp z0 .nil)
 refine wp_block ?_
 refine QR _ (fun (s7 : Int) a w => St M w0 26 [(5,ti s7),(0,tsl rI a_),(1,tsl rI b_)] [] a w) _ _ he8 (H.pick [0,1,2]) ?_
 clear h
 intro s7 o a w K26 hI h ho k26
 have H := hI
 clear hI
 refine wp_seq_k (fun _ k27 => ?_)
 refine sr mx [] H (fun _ => .q 0 rfl<|.q 2 rfl<|.o (QE ud22 z0)<|.o (QG z2 z0)<|.n) fun _ a w H => ?_
 have H := H.to [3,4,5,6] [_,_,_,_] [] rfl rfl
 refine wi H h (fun b33 h => ?_) (fun b33 h => ?_)
 ·refine wp_skip (k27 _ _ ?_)
  refine wp_seq_k (fun _ k29 => ?_)
  refine wp_block ?_
  have ⟨t19,ht19,h⟩ := bs h
  have ⟨t23,ht23,h⟩ := bs h
  refine sr mx [] H (fun _ => .q 2 rfl<|.q 2 rfl<|.o (Qr ud22 tok3 z1 z0 ht19)<|.o (Qm tok3 z0)<|.q 7 rfl<|.q 6 rfl<|.o (Qr ud22 tok3 z1 z0 ht23)<|.o (Qm tok3 z0)<|.o (Qau z4 z0)<|.n) fun _ a w H => ?_
  have H := H.to [8,10,11,12] [_,_,_,_] [] rfl rfl
  refine wi H h (fun b32 h => ?_) (fun b32 h => ?_)
  ·refine sr mx [] H (fun _ => .o (Qa .k)<|.n) fun _ a w H => ?_
   have H := H.to [0] [_] [] rfl rfl
   refine wp_ret ?_
   exact hJp24 _ _ _ (ho _ (sj h).symm) (H.pick [0])
  refine wp_skip (k29 _ _ ?_)
  refine wr mx [] H (fun _ => .q 1 rfl<|.o (QQ z0 .k)<|.o (Qa z0)<|.n) fun _ a w H => ?_
  have H := H.to [2,4,5] [_,_,_] [] rfl rfl
  exact k26 _ _ _ (sj h).symm (H.pick [0,1,2])
 refine wp_exit ?_
 exact hJp23 _ _ _ (ho _ (sj h).symm) (H.pick [])

/- diorama/counts.Holds$1 -/
noncomputable def Qfb (n_ : Int) : Option (Bool) := (QdK n_).bind fun t4 => (some (!t4))
theorem Qm9 {n_ : Int} {r : Bool} (h : Qfb n_ = some r) : FnOk Tryz.prog 44 [ti n_] [] (fun _ => []) (fun _ => tb r) := by
 unfold Qfb at h
 refine fe Tryz.func44 Tryz.ntmps44 fun M0 M w0 a hpl H => ?_
 replace H : St M w0 6 [(0,ti n_)] [] a w0 := H
 refine sr mx [] H (fun _ => .o (Qa .k)<|.n) fun _ a w H => ?_
 have H := H.to [1] [_] [] rfl rfl
 have ⟨t4,ht4,h⟩ := bs h
 refine sr mx [] H (fun _ => .q 0 rfl<|.o (Qf QrT (QjU ht4) (.cons (.of z0)<|.nil))<|.o (Qae z0)<|.o (Qa z0)<|.n) fun _ a w H => ?_
 have H := H.to [3] [_] [] rfl rfl
 refine wp_ret ?_
 obtain rfl := sj h
 exact rt undef [] hpl H (.tmp z0 .nil)

/- diorama/counts.Holds -/
noncomputable def Qe2 (l_ : Qi) (counts_ : (List Int)) : Option (Bool) := (Qco l_ (counts_.length : Int)).bind fun t8 => (opt (t8 == true) (Qbv counts_ (fun x0 => Qfb x0)) default).bind fun t11 => (opt ((t8 && (!t11)) == true) (Qcp l_ counts_) default).bind fun t17 => (some ((t8 && (!t11)) && t17))
theorem QkJ {l_ : Qi} {counts_ : (List Int)} {r : Bool} (h : Qe2 l_ counts_ = some r) : FnOk Tryz.prog 21 [Ql.ty l_,tsl rI counts_] [] (fun _ => []) (fun _ => tb r) := by
 unfold Qe2 at h
 refine fe Tryz.func21 Tryz.ntmps21 fun M0 M w0 a hpl H => ?_
 replace H : St M w0 19 [(0,Ql.ty l_),(1,tsl rI counts_)] [] a w0 := H
 refine sr mx [] H (fun _ => .o (QV (R := Ql) (u := l_) z0)<|.o (Qa .k)<|.n) fun _ a w H => ?_
 have H := H.to [0,3] [_,_] [] rfl rfl
 have ⟨t8,ht8,h⟩ := bs h
 have ⟨t11,ht11,h⟩ := bs h
 have ⟨t17,ht17,h⟩ := bs h
 refine sr mx [] H (fun _ => .o (Qm Qbn z0)<|.q 2 rfl<|.o (QE ud22 z0)<|.o (Qf QrR (Qh3 ht8) (.cons (.of z2)<|.cons (.of z0)<|.nil))<|.q 0 rfl<|.g rfl rfl bq0 (fun _ => Qq z6)<|.g rfl rfl bq1 (fun hc => Qf QrS (Qgm (Qaj ht11 hc)) (.cons (.of (.cond z0 hc))<|.cons (.of (Fct.weak .fnE (Qb7 call44 (fun _ _ hq => Qm9 hq))))<|.nil))<|.g rfl rfl bq2 (fun hc => Qae (.cond z0 hc))<|.o (QW z3 (fun hp => (.cond z0 (beqT hp))))<|.q 0 rfl<|.g rfl rfl bq0 (fun _ => Qm Qbn z10)<|.g rfl rfl bq1 (fun _ => Qq z12)<|.g rfl rfl bq2 (fun hc => Qf QrU (Qh4 (Qaj ht17 hc)) (.cons (.of (.cond z1 hc))<|.cons (.of (.cond z0 hc))<|.nil))<|.o (QW z3 (fun hp => (.cond z0 (beqT hp))))<|.o (Qa z0)<|.n) fun _ a w H => ?_
 have H := H.to [14] [_] [] rfl rfl
 refine wp_ret ?_
 obtain rfl := sj h
 exact rt undef [] hpl H (.tmp z0 .nil)

/- diorama/dioramalaw13.lives -/
noncomputable def QeB  : Option (Bool) := (QcQ (3:Int)).bind fun t13 => (Qey t13 [(2:Int),(9:Int)]).bind fun t15 => (QcQ (3:Int)).bind fun t19 => (Qey t19 [(1:Int),(9:Int)]).bind fun t21 => (QcQ (9:Int)).bind fun t25 => (Qey t25 [(2:Int),(9:Int)]).bind fun t27 => (QcQ (9:Int)).bind fun t31 => (Qb5 t31).bind fun t32 => (if ((((((t15.2 != (0:Int)) || (t21.2 != (0:Int))) || (t27.2 != (14:Int))) || (t32.2.2 != (0:Int))) || ((t32.1.length : Int) != (6:Int))) || ((t32.2.1.length : Int) != (6:Int))) = true then (some false) else (Qgn (2:Int) t32.1).bind fun t62 => (opt ((t62.2 != (0:Int)) == false) (Qc3 t62.1 [(1:Int),(2:Int),(5:Int)]) default).bind fun t70 => (opt (((t62.2 != (0:Int)) || (!t70)) == false) (idx t32.2.1 (1:Int)) default).bind fun t75 => (opt ((((t62.2 != (0:Int)) || (!t70)) || (t75 != ([97,32,109,111,115,116] : Str))) == false) (idx t32.2.1 (2:Int)) default).bind fun t81 => (opt (((((t62.2 != (0:Int)) || (!t70)) || (t75 != ([97,32,109,111,115,116] : Str))) || (t81 != ([98,32,108,101,97,115,116] : Str))) == false) (idx t32.2.1 (5:Int)) default).bind fun t87 => (if (((((t62.2 != (0:Int)) || (!t70)) || (t75 != ([97,32,109,111,115,116] : Str))) || (t81 != ([98,32,108,101,97,115,116] : Str))) || (t87 != ([98,46,111,102,32,109,111,115,116] : Str))) = true then (some false) else (Qc3 t15.1 [(2:Int),(8:Int)]).bind fun t93 => (opt (t93 == true) (Qc3 t21.1 [(2:Int),(8:Int)]) default).bind fun t97 => (opt ((t93 && t97) == true) (idx t32.1 (5:Int)) default).bind fun t101 => (opt ((t93 && t97) == true) (Qe2 t101 [(2:Int),(9:Int)]) default).bind fun t104 => (opt (((t93 && t97) && (!t104)) == true) (idx t32.1 (5:Int)) default).bind fun t109 => (opt (((t93 && t97) && (!t104)) == true) (Qe2 t109 [(2:Int),(8:Int)]) default).bind fun t112 => (some (((t93 && t97) && (!t104)) && t112))))
theorem QoU {r : Bool} (h : QeB  = some r) : FnOk Tryz.prog 16 [] [glo] (fun _ => []) (fun _ => tb r) := by
 unfold QeB at h
 refine fe Tryz.func16 Tryz.ntmps16 fun M0 M w0 a hpl H => ?_
 replace H : St M w0 114 [] [glo] a w0 := H
 refine sr mx [] H (fun _ => .o (Qa .k)<|.n) fun _ a w H => ?_
 have H := H.to [] [] [_] rfl rfl
 have ⟨t13,ht13,h⟩ := bs h
 have ⟨t15,ht15,h⟩ := bs h
 refine sr mx [] H (fun _ => .o (Qf Qn0 (QfV ht13) (.cons (.of .k)<|.nil))<|.o (Qy (R := rI) (us := [(2:Int),(9:Int)]) ud22 tok3 (.cons .k<|.cons .k<|.nil _) rfl (leb rfl))<|.u [0] rfl rfl ((Qf Qp9 (QiX ht15) (.cons (.of z1)<|.cons (.of z0)<|.nil)).glo)<|.q 0 rfl<|.o (QU z0 rfl)<|.o (QU z1 rfl)<|.o (Qa z1)<|.o (Qa z1)<|.n) fun _ a w H => ?_
 have H := H.to [6,7] [_,_] [_] rfl rfl
 have ⟨t19,ht19,h⟩ := bs h
 have ⟨t21,ht21,h⟩ := bs h
 refine sr mx [] H (fun _ => .o (Qf Qn0 (QfV ht19) (.cons (.of .k)<|.nil))<|.o (Qy (R := rI) (us := [(1:Int),(9:Int)]) ud22 tok3 (.cons .k<|.cons .k<|.nil _) rfl (leb rfl))<|.u [0] rfl rfl ((Qf Qp9 (QiX ht21) (.cons (.of z1)<|.cons (.of z0)<|.nil)).glo)<|.q 0 rfl<|.o (QU z0 rfl)<|.o (QU z1 rfl)<|.o (Qa z1)<|.o (Qa z1)<|.n) fun _ a w H => ?_
 have H := H.to [6,7,8,9] [_,_,_,_] [_] rfl rfl
 have ⟨t25,ht25,h⟩ := bs h
 have ⟨t27,ht27,h⟩ := bs h
 refine sr mx [] H (fun _ => .o (Qf Qn0 (QfV ht25) (.cons (.of .k)<|.nil))<|.o (Qy (R := rI) (us := [(2:Int),(9:Int)]) ud22 tok3 (.cons .k<|.cons .k<|.nil _) rfl (leb rfl))<|.u [0] rfl rfl ((Qf Qp9 (QiX ht27) (.cons (.of z1)<|.cons (.of z0)<|.nil)).glo)<|.q 0 rfl<|.o (QU z0 rfl)<|.o (QU z1 rfl)<|.o (Qa z1)<|.o (Qa z1)<|.n) fun _ a w H => ?_
 have H := H.to [7,8,9,10,11] [_,_,_,_,_] [_] rfl rfl
 have ⟨t31,ht31,h⟩ := bs h
 have ⟨t32,ht32,h⟩ := bs h
 refine sr mx [] H (fun _ => .o (Qf Qn0 (QfV ht31) (.cons (.of .k)<|.nil))<|.u [0] rfl rfl ((Qf Qp8 (QhJ ht32) (.cons (.of z0)<|.nil)).glo)<|.q 0 rfl<|.o (QU z0 rfl)<|.o (QU z1 rfl)<|.o (QU z2 rfl)<|.o (Qa z2)<|.o (Qa z2)<|.o (Qa z2)<|.n) fun _ a w H => ?_
 have H := H.to [6,7,8,9,10,11,12,13] [_,_,_,_,_,_,_,_] [_] rfl rfl
 refine wp_seq_k (fun _ k6 => ?_)
 refine sr mx [] H (fun _ => .q 7 rfl<|.o (Qau z0 .k)<|.q 0 rfl<|.g rfl rfl bq0 (fun _ => Qq z8)<|.g rfl rfl bq1 (fun hc => Qau (.cond z0 hc) .k)<|.o (Q6 z2 (fun hp => (.cond z0 (beqF hp))))<|.q 0 rfl<|.g rfl rfl bq0 (fun _ => Qq z10)<|.g rfl rfl bq1 (fun hc => Qau (.cond z0 hc) .k)<|.o (Q6 z2 (fun hp => (.cond z0 (beqF hp))))<|.q 0 rfl<|.g rfl rfl bq0 (fun _ => Qq z13)<|.g rfl rfl bq1 (fun hc => Qau (.cond z0 hc) .k)<|.o (Q6 z2 (fun hp => (.cond z0 (beqF hp))))<|.q 0 rfl<|.g rfl rfl bq0 (fun _ => Qq z15)<|.g rfl rfl bq1 (fun hc => QE ud31 (.cond z0 hc))<|.g rfl rfl bq2 (fun hc => Qau (.cond z0 hc) .k)<|.o (Q6 z3 (fun hp => (.cond z0 (beqF hp))))<|.q 0 rfl<|.g rfl rfl bq0 (fun _ => Qq z21)<|.g rfl rfl bq1 (fun hc => QE ud32 (.cond z0 hc))<|.g rfl rfl bq2 (fun hc => Qau (.cond z0 hc) .k)<|.o (Q6 z3 (fun hp => (.cond z0 (beqF hp))))<|.n) fun _ a w H => ?_
 have H := H.to [23,24,25,28,30] [_,_,_,_,_] [_] rfl rfl
 refine wi H h (fun b15 h => ?_) (fun b15 h => ?_)
 ·refine sr mx [] H (fun _ => .o (Qa .k)<|.n) fun _ a w H => ?_
  have H := H.to [0] [_] [_] rfl rfl
  refine wp_ret ?_
  obtain rfl := sj h
  exact rt undef [] hpl H (.tmp z0 .nil)
 refine wp_skip (k6 _ _ ?_)
 have ⟨t62,ht62,h⟩ := bs h
 refine sr mx [] H (fun _ => .q 1 rfl<|.u [0] rfl rfl ((Qf call27 (Qoh ht62) (.cons (.of .k)<|.cons (.of z0)<|.nil)).glo)<|.q 0 rfl<|.o (QU z0 rfl)<|.o (QU z1 rfl)<|.o (Qa z1)<|.o (Qa z1)<|.n) fun _ a w H => ?_
 have H := H.to [5,6,8,9,10,11] [_,_,_,_,_,_] [_] rfl rfl
 refine wp_seq_k (fun _ k10 => ?_)
 have ⟨t70,ht70,h⟩ := bs h
 have ⟨t75,ht75,h⟩ := bs h
 have ⟨t81,ht81,h⟩ := bs h
 have ⟨t87,ht87,h⟩ := bs h
 refine sr mx [] H (fun _ => .q 1 rfl<|.o (Qau z0 .k)<|.q 0 rfl<|.g rfl rfl bq0 (fun _ => Qq z3)<|.g rfl rfl bq1 (fun _ => Qy (R := rI) (us := [(1:Int),(2:Int),(5:Int)]) ud22 tok3 (.cons .k<|.cons .k<|.cons .k<|.nil _) rfl (leb rfl))<|.g rfl rfl bq2 (fun hc => Qf Qqa (Qho (Qaj ht70 hc)) (.cons (.of (.cond z1 hc))<|.cons (.of (.cond z0 hc))<|.nil))<|.g rfl rfl bq3 (fun hc => Qae (.cond z0 hc))<|.o (Q6 z4 (fun hp => (.cond z0 (beqF hp))))<|.q 0 rfl<|.g rfl rfl bq0 (fun _ => Qq z12)<|.g rfl rfl bq1 (fun hc => Qr ud32 tok9 (.cond z0 hc) .k (Qaj ht75 hc))<|.g rfl rfl bq2 (fun hc => Qm tok9 (.cond z0 hc))<|.g rfl rfl bq3 (fun hc => Qeb (.cond z0 hc) .k)<|.o (Q6 z4 (fun hp => (.cond z0 (beqF hp))))<|.q 0 rfl<|.g rfl rfl bq0 (fun _ => Qq z18)<|.g rfl rfl bq1 (fun hc => Qr ud32 tok9 (.cond z0 hc) .k (Qaj ht81 hc))<|.g rfl rfl bq2 (fun hc => Qm tok9 (.cond z0 hc))<|.g rfl rfl bq3 (fun hc => Qeb (.cond z0 hc) .k)<|.o (Q6 z4 (fun hp => (.cond z0 (beqF hp))))<|.q 0 rfl<|.g rfl rfl bq0 (fun _ => Qq z24)<|.g rfl rfl bq1 (fun hc => Qr ud32 tok9 (.cond z0 hc) .k (Qaj ht87 hc))<|.g rfl rfl bq2 (fun hc => Qm tok9 (.cond z0 hc))<|.g rfl rfl bq3 (fun hc => Qeb (.cond z0 hc) .k)<|.o (Q6 z4 (fun hp => (.cond z0 (beqF hp))))<|.n) fun _ a w H => ?_
 have H := H.to [25,28,30,31] [_,_,_,_] [_] rfl rfl
 refine wi H h (fun b14 h => ?_) (fun b14 h => ?_)
 ·refine sr mx [] H (fun _ => .o (Qa .k)<|.n) fun _ a w H => ?_
  have H := H.to [0] [_] [_] rfl rfl
  refine wp_ret ?_
  obtain rfl := sj h
  exact rt undef [] hpl H (.tmp z0 .nil)
 refine wp_skip (k10 _ _ ?_)
 have ⟨t93,ht93,h⟩ := bs h
 have ⟨t97,ht97,h⟩ := bs h
 have ⟨t101,ht101,h⟩ := bs h
 have ⟨t104,ht104,h⟩ := bs h
 have ⟨t109,ht109,h⟩ := bs h
 have ⟨t112,ht112,h⟩ := bs h
 refine sr mx [] H (fun _ => .q 3 rfl<|.o (Qy (R := rI) (us := [(2:Int),(8:Int)]) ud22 tok3 (.cons .k<|.cons .k<|.nil _) rfl (leb rfl))<|.o (Qf Qqa (Qho ht93) (.cons (.of z1)<|.cons (.of z0)<|.nil))<|.q 0 rfl<|.g rfl rfl bq0 (fun _ => Qq z6)<|.g rfl rfl bq1 (fun _ => Qy (R := rI) (us := [(2:Int),(8:Int)]) ud22 tok3 (.cons .k<|.cons .k<|.nil _) rfl (leb rfl))<|.g rfl rfl bq2 (fun hc => Qf Qqa (Qho (Qaj ht97 hc)) (.cons (.of (.cond z1 hc))<|.cons (.of (.cond z0 hc))<|.nil))<|.o (QW z3 (fun hp => (.cond z0 (beqT hp))))<|.q 0 rfl<|.g rfl rfl bq0 (fun _ => Qq z10)<|.g rfl rfl bq1 (fun hc => Qr ud31 Qbn (.cond z0 hc) .k (Qaj ht101 hc))<|.g rfl rfl bq2 (fun hc => Qm Qbn (.cond z0 hc))<|.g rfl rfl bq3 (fun _ => Qy (R := rI) (us := [(2:Int),(9:Int)]) ud22 tok3 (.cons .k<|.cons .k<|.nil _) rfl (leb rfl))<|.g rfl rfl bq4 (fun hc => Qf QrP (QkJ (Qaj ht104 hc)) (.cons (.of (.cond z1 hc))<|.cons (.of (.cond z0 hc))<|.nil))<|.g rfl rfl bq5 (fun hc => Qae (.cond z0 hc))<|.o (QW z6 (fun hp => (.cond z0 (beqT hp))))<|.q 0 rfl<|.g rfl rfl bq0 (fun _ => Qq z18)<|.g rfl rfl bq1 (fun hc => Qr ud31 Qbn (.cond z0 hc) .k (Qaj ht109 hc))<|.g rfl rfl bq2 (fun hc => Qm Qbn (.cond z0 hc))<|.g rfl rfl bq3 (fun _ => Qy (R := rI) (us := [(2:Int),(8:Int)]) ud22 tok3 (.cons .k<|.cons .k<|.nil _) rfl (leb rfl))<|.g rfl rfl bq4 (fun hc => Qf QrP (QkJ (Qaj ht112 hc)) (.cons (.of (.cond z1 hc))<|.cons (.of (.cond z0 hc))<|.nil))<|.o (QW z5 (fun hp => (.cond z0 (beqT hp))))<|.o (Qa z0)<|.n) fun _ a w H => ?_
 have H := H.to [23] [_] [_] rfl rfl
 refine wp_ret ?_
 obtain rfl := sj h
 exact rt undef [] hpl H (.tmp z0 .nil)

end Go.Proofs.YtcdccjagknlmpaaGreatDoor
