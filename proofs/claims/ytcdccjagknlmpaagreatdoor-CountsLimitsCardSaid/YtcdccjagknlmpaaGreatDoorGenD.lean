/- Go functions as Lean functions, and the proofs that they compute them, written by a program. No condition. -/
import Derived.Test.YtcdccjagknlmpaaGreatDoorGenC
namespace Go.Proofs.YtcdccjagknlmpaaGreatDoor
open Go.Sim
set_option maxRecDepth 100000
set_option maxHeartbeats 4000000

/- diorama/schema.all[[2]int] -/
noncomputable def QbS (l_ : (List QT)) (right_ : (QT → Option Bool)) : Option (Bool) := (QaS l_ (fun x0 => Qc1 x0 right_)).bind fun t7 => (some (!t7))
theorem QlJ {l_ : (List QT)} {right_ : (QT → Option Bool)} {r : Bool} (h : QbS l_ right_ = some r) : FnOk Tryz.prog 131 [tsl Qam l_,Qik.ty right_] [] (fun _ => []) (fun _ => tb r) := by
 unfold QbS at h
 refine fe Tryz.func131 Tryz.ntmps131 fun M0 M w0 a hpl H => ?_
 replace H : St M w0 9 [(0,tsl Qam l_),(1,Qik.ty right_)] [] a w0 := H
 refine sr mx [] H (fun _ => .o (QV (R := Qik) (u := right_) z1)<|.o (Qa .k)<|.n) fun _ a w H => ?_
 have H := H.to [0,2] [_,_] [] rfl rfl
 have ⟨t7,ht7,h⟩ := bs h
 refine sr mx [] H (fun _ => .q 1 rfl<|.o (QdX (.cons z1<|.nil))<|.o (Qf Quv (QiN ht7) (.cons (.of z1)<|.cons (.of (Fct.weak z0 (Qb7 Quw (fun _ _ hq => QkU hq))))<|.nil))<|.o (Qae z0)<|.o (Qa z0)<|.n) fun _ a w H => ?_
 have H := H.to [4] [_] [] rfl rfl
 refine wp_ret ?_
 obtain rfl := sj h
 exact rt undef [] hpl H (.tmp z0 .nil)

/- diorama/schema.isLife -/
noncomputable def Qdm (x_ : Qo) : Option (Bool) := (Qap (x_).Name).bind fun t9 => (opt (t9 == true) (QaW ((x_).States.length : Int) (1:Int) (12:Int)) default).bind fun t12 => (opt ((t9 && t12) == true) (QbC (x_).States (fun x0 => Qap x0)) default).bind fun t17 => (opt ((((t9 && t12) && t17) && (decide (((x_).Moves.length : Int) ≤ (32:Int)))) == true) (QbS (x_).Moves (fun x0 => QcH x0 ((x_).States.length : Int))) default).bind fun t29 => (some ((((t9 && t12) && t17) && (decide (((x_).Moves.length : Int) ≤ (32:Int)))) && t29))
theorem Qnl {x_ : Qo} {r : Bool} (h : Qdm x_ = some r) : FnOk Tryz.prog 101 [Qz.ty x_] [] (fun _ => []) (fun _ => tb r) := by
 unfold Qdm at h
 refine fe Tryz.func101 Tryz.ntmps101 fun M0 M w0 a hpl H => ?_
 replace H : St M w0 31 [(0,Qz.ty x_)] [] a w0 := H
 refine sr mx [] H (fun _ => .o (QV (R := Qz) (u := x_) z0)<|.o (Qa .k)<|.n) fun _ a w H => ?_
 have H := H.to [0] [_] [] rfl rfl
 refine sr mx [v1 3 (fun v0 => box (rI.cs (0:Int)) v0),v1 3 (fun v0 => box (rI.cs ((x_).States.length : Int)) v0)] H (fun _ => .o (Qe Qed z0)<|.o (Qd (u := (x_).States) Qbx z0 rfl)<|.o (QE ud32 z0)<|.m [] [0] rfl rfl rfl (Q0 (R := rI) (a := (0:Int)) tok3 zok3)<|.e [] [0] [1] rfl rfl rfl rfl (QS (R := rI) (a := ((x_).States.length : Int)) tok3 z0 z1 (leb rfl))<|.n) fun _ a w H => ?_
 replace H : St _ _ _ [_,_] [] _ _ := (((H.pick [3,4]).shareB 0 rfl).add 0 rfl (fun _ _ _ h => h.2)).pick [0,3]
 have ⟨t9,ht9,h⟩ := bs h
 have ⟨t12,ht12,h⟩ := bs h
 have ⟨t17,ht17,h⟩ := bs h
 have ⟨t29,ht29,h⟩ := bs h
 refine sr mx [] H (fun _ => .o (Qe Qgw z1)<|.o (Qd (u := (x_).Name) tok9 z0 rfl)<|.o (Qf QcN (Qay ht9) (.cons (.of z0)<|.nil))<|.q 0 rfl<|.g rfl rfl bq0 (fun _ => Qm tok3 z4)<|.g rfl rfl bq1 (fun hc => Qf Qim (QbD (Qaj ht12 hc)) (.cons (.of (.cond z0 hc))<|.cons (.of .k)<|.cons (.of .k)<|.nil))<|.o (QW z2 (fun hp => (.cond z0 (beqT hp))))<|.q 0 rfl<|.g rfl rfl bq0 (fun _ => Qe Qed z9)<|.g rfl rfl bq1 (fun hc => Qd (u := (x_).States) Qbx (.cond z0 hc) rfl)<|.g rfl rfl bq2 (fun hc => Qf QqQ (Qiq (Qaj ht17 hc)) (.cons (.of (.cond z0 hc))<|.cons (.of (Fct.weak .fnE (Qb7 QcN (fun _ _ hq => Qay hq))))<|.nil))<|.o (QW z3 (fun hp => (.cond z0 (beqT hp))))<|.q 0 rfl<|.g rfl rfl bq0 (fun _ => Qe Qcm z14)<|.g rfl rfl bq1 (fun hc => Qd (u := (x_).Moves) Qhc (.cond z0 hc) rfl)<|.g rfl rfl bq2 (fun hc => QE ud79 (.cond z0 hc))<|.g rfl rfl bq3 (fun hc => QcK (.cond z0 hc) .k)<|.o (QW z4 (fun hp => (.cond z0 (beqT hp))))<|.q 0 rfl<|.g rfl rfl bq0 (fun _ => Qe Qcm z20)<|.g rfl rfl bq1 (fun hc => Qd (u := (x_).Moves) Qhc (.cond z0 hc) rfl)<|.g rfl rfl bq2 (fun _ => QdX (.cons z21<|.nil))<|.g rfl rfl bq3 (fun hc => Qf Quc (QlJ (Qaj ht29 hc)) (.cons (.of (.cond z1 hc))<|.cons (.of (Fct.weak (.cond z0 hc) (Qb7 Qud (fun _ _ hq => Qmr hq))))<|.nil))<|.o (QW z4 (fun hp => (.cond z0 (beqT hp))))<|.o (Qa z0)<|.n) fun _ a w H => ?_
 have H := H.to [24] [_] [] rfl rfl
 refine wp_ret ?_
 obtain rfl := sj h
 exact rt undef [] hpl H (.tmp z0 .nil)

/- diorama/schema.all[diorama/api.Rule]$1 -/
noncomputable def QdA (x_ : Qn) (c0_ : (Qn → Option Bool)) : Option (Bool) := (c0_ x_).bind fun t6 => (some (!t6))
theorem QlK {x_ : Qn} {c0_ : (Qn → Option Bool)} {r : Bool} (h : QdA x_ c0_ = some r) : FnOk Tryz.prog 133 [Qt.ty x_,tptr (Qih.cs c0_)] [] (fun _ => []) (fun _ => tb r) := by
 unfold QdA at h
 refine fe Tryz.func133 Tryz.ntmps133 fun M0 M w0 a hpl H => ?_
 replace H : St M w0 8 [(0,Qt.ty x_),(1,tptr (Qih.cs c0_))] [] a w0 := H
 refine sr mx [] H (fun _ => .o (QV (R := Qt) (u := x_) z0)<|.o (Qa .k)<|.n) fun _ a w H => ?_
 have H := H.to [0,3] [_,_] [] rfl rfl
 have ⟨t6,ht6,h⟩ := bs h
 refine sr mx [] H (fun _ => .o (Qm tok163 z1)<|.o (Qm QaU z1)<|.o (Qca (u := x_) z1 (.cons (.of z0)<|.nil) ht6)<|.o (Qae z0)<|.o (Qa z0)<|.n) fun _ a w H => ?_
 have H := H.to [4] [_] [] rfl rfl
 refine wp_ret ?_
 obtain rfl := sj h
 exact rt undef [] hpl H (.tmp z0 .nil)

/- slices.IndexFunc[[]diorama/api.Rule,diorama/api.Rule] -/
noncomputable def Qbm (s_ : (List Qn)) (f_ : (Qn → Option Bool)) : Option (Int) := (QF (fun (s4 : Int) => ((if (decide (s4 < (s_.length : Int))) = true then (idx s_ s4).bind fun t14 => (f_ t14).bind fun t16 => (if t16 = true then (some (.inr (.inr s4))) else (some (.inl (IntKind.i64.wrap (s4 + (1:Int)))))) else (some (.inr (.inl ())))) : Option ((Int) ⊕ ((Unit) ⊕ (Int))))) (0:Int)).bind fun (e5 : (Unit) ⊕ (Int)) => (match e5 with | .inl _ => (some (-1:Int)) | .inr p23 => (some p23))
theorem Qkp {s_ : (List Qn)} {f_ : (Qn → Option Bool)} {r : Int} (h : Qbm s_ f_ = some r) : FnOk Tryz.prog 139 [tsl Qt s_,Qih.ty f_] [] (fun _ => []) (fun _ => ti r) := by
 unfold Qbm at h
 refine fe Tryz.func139 Tryz.ntmps139 fun M0 M w0 a hpl H => ?_
 replace H : St M w0 19 [(0,tsl Qt s_),(1,Qih.ty f_)] [] a w0 := H
 refine sr mx [] H (fun _ => .o (Qa .k)<|.n) fun _ a w H => ?_
 have H := H.to [1,2] [_,_] [] rfl rfl
 refine wp_seq_k (fun K2 k2 => ?_)
 refine sr mx [] H (fun _ => .q 0 rfl<|.o (QE ud25 z0)<|.o (Qq .k)<|.n) fun _ a w H => ?_
 have H := H.to [1,2,3,4] [_,_,_,_] [] rfl rfl
 have ⟨e5,he5,h⟩ := bs h
 have hJp22 : ∀ (p22 : Unit) a w,(.inl p22) = e5 → St M w0 19 [] [] a w → K2 a w := by
  intro p22 a w he H
  subst he
  simp only at h
  refine k2 _ _ ?_
  refine sr mx [] H (fun _ => .o (Qa .k)<|.n) fun _ a w H => ?_
  have H := H.to [0] [_] [] rfl rfl
  refine wp_ret ?_
  obtain rfl := sj h
  exact rt undef [] hpl H (.tmp z0 .nil)
 have hJp23 : ∀ (p23 : Int) a w,(.inr p23) = e5 → St M w0 19 [(4,ti p23)] [] a w → Ret Tryz.prog Tryz.f139 M0 [] w0 (fun _ => []) (fun _ => ti r) .ret a w := by
  intro p23 a w he H
  subst he
  simp only at h
  obtain rfl := sj h
  exact rt undef [] hpl H (.tmp z0 .nil)
 refine wp_block ?_
 refine QR _ (fun (s4 : Int) a w => St M w0 19 [(7,ti (s_.length : Int)),(8,ti s4),(0,tsl Qt s_),(1,Qih.ty f_)] [] a w) _ _ he5 (H.pick [0,1,2,3]) ?_
 clear h
 intro s4 o a w K25 hI h ho k25
 have H := hI
 clear hI
 refine sr mx [] H (fun _ => .o (QG z1 z0)<|.n) fun _ a w H => ?_
 have H := H.to [0,1,2,3,4] [_,_,_,_,_] [] rfl rfl
 refine wp_seq_k (fun _ k27 => ?_)
 refine wi H h (fun b33 h => ?_) (fun b33 h => ?_)
 ·refine wp_skip (k27 _ _ ?_)
  refine wp_seq_k (fun _ k28 => ?_)
  refine wp_block ?_
  refine sr mx [] H (fun _ => .q 2 rfl<|.o (Qa z0)<|.n) fun _ a w H => ?_
  have H := H.to [1,3,4,5,6] [_,_,_,_,_] [] rfl rfl
  have ⟨t14,ht14,h⟩ := bs h
  have ⟨t16,ht16,h⟩ := bs h
  refine sr mx [] H (fun _ => .q 4 rfl<|.q 4 rfl<|.q 2 rfl<|.o (Qr ud25 QaU z1 z0 ht14)<|.o (Qm QaU z0)<|.o (Qca (u := t14) z4 (.cons (.of z0)<|.nil) ht16)<|.n) fun _ a w H => ?_
  have H := H.to [5,6,7,8,9,10] [_,_,_,_,_,_] [] rfl rfl
  refine wi H h (fun b32 h => ?_) (fun b32 h => ?_)
  ·refine sr mx [] H (fun _ => .q 1 rfl<|.o (Qa z0)<|.n) fun _ a w H => ?_
   have H := H.to [1] [_] [] rfl rfl
   refine wp_ret ?_
   exact hJp23 _ _ _ (ho _ (sj h).symm) (H.pick [0])
  refine wp_skip (k28 _ _ ?_)
  refine wr mx [] H (fun _ => .o (QQ z3 .k)<|.q 0 rfl<|.n) fun _ a w H => ?_
  have H := H.to [1,4,5,6] [_,_,_,_] [] rfl rfl
  exact k25 _ _ _ (sj h).symm (H.pick [1,0,2,3])
 refine wp_exit ?_
 exact hJp22 _ _ _ (ho _ (sj h).symm) (H.pick [])

/- slices.ContainsFunc[[]diorama/api.Rule,diorama/api.Rule] -/
noncomputable def QaM (s_ : (List Qn)) (f_ : (Qn → Option Bool)) : Option (Bool) := (Qbm s_ f_).bind fun t7 => (some (decide (t7 ≥ (0:Int))))
theorem QfI {s_ : (List Qn)} {f_ : (Qn → Option Bool)} {r : Bool} (h : QaM s_ f_ = some r) : FnOk Tryz.prog 108 [tsl Qt s_,Qih.ty f_] [] (fun _ => []) (fun _ => tb r) := by
 unfold QaM at h
 refine fe Tryz.func108 Tryz.ntmps108 fun M0 M w0 a hpl H => ?_
 replace H : St M w0 9 [(0,tsl Qt s_),(1,Qih.ty f_)] [] a w0 := H
 refine sr mx [] H (fun _ => .o (Qa .k)<|.n) fun _ a w H => ?_
 have H := H.to [1,2] [_,_] [] rfl rfl
 have ⟨t7,ht7,h⟩ := bs h
 refine sr mx [] H (fun _ => .q 0 rfl<|.q 2 rfl<|.o (Qf Qug (Qkp ht7) (.cons (.of z1)<|.cons (.of z0)<|.nil))<|.o (QaJ z0 .k)<|.o (Qa z0)<|.n) fun _ a w H => ?_
 have H := H.to [4] [_] [] rfl rfl
 refine wp_ret ?_
 obtain rfl := sj h
 exact rt undef [] hpl H (.tmp z0 .nil)

/- diorama/schema.all[diorama/api.Rule] -/
noncomputable def QcI (l_ : (List Qn)) (right_ : (Qn → Option Bool)) : Option (Bool) := (QaM l_ (fun x0 => QdA x0 right_)).bind fun t7 => (some (!t7))
theorem Qms {l_ : (List Qn)} {right_ : (Qn → Option Bool)} {r : Bool} (h : QcI l_ right_ = some r) : FnOk Tryz.prog 102 [tsl Qt l_,Qih.ty right_] [] (fun _ => []) (fun _ => tb r) := by
 unfold QcI at h
 refine fe Tryz.func102 Tryz.ntmps102 fun M0 M w0 a hpl H => ?_
 replace H : St M w0 9 [(0,tsl Qt l_),(1,Qih.ty right_)] [] a w0 := H
 refine sr mx [] H (fun _ => .o (QV (R := Qih) (u := right_) z1)<|.o (Qa .k)<|.n) fun _ a w H => ?_
 have H := H.to [0,2] [_,_] [] rfl rfl
 have ⟨t7,ht7,h⟩ := bs h
 refine sr mx [] H (fun _ => .q 1 rfl<|.o (QdX (.cons z1<|.nil))<|.o (Qf QqP (QfI ht7) (.cons (.of z1)<|.cons (.of (Fct.weak z0 (Qb7 Que (fun _ _ hq => QlK hq))))<|.nil))<|.o (Qae z0)<|.o (Qa z0)<|.n) fun _ a w H => ?_
 have H := H.to [4] [_] [] rfl rfl
 refine wp_ret ?_
 obtain rfl := sj h
 exact rt undef [] hpl H (.tmp z0 .nil)

/- diorama/schema.isRule -/
noncomputable def Qdn (r_ : Qn) : Option (Bool) := (Qap (r_).Name).bind fun t5 => (opt (t5 == true) (Qap (r_).Kind) default).bind fun t9 => (opt (((t5 && t9) == true) && (((r_).A == ([] : Str)) == false)) (Qap (r_).A) default).bind fun t18 => (opt ((((t5 && t9) && (((r_).A == ([] : Str)) || t18)) == true) && (((r_).B == ([] : Str)) == false)) (Qap (r_).B) default).bind fun t28 => (opt ((((t5 && t9) && (((r_).A == ([] : Str)) || t18)) && (((r_).B == ([] : Str)) || t28)) == true) (cat ((r_).A.length + (r_).B.length)) default).bind fun _ => (opt (((((t5 && t9) && (((r_).A == ([] : Str)) || t18)) && (((r_).B == ([] : Str)) || t28)) && (((r_).A ++ (r_).B) != ([] : Str))) == true) (QaW (r_).N (-1048576:Int) (1048576:Int)) default).bind fun t42 => (some (((((t5 && t9) && (((r_).A == ([] : Str)) || t18)) && (((r_).B == ([] : Str)) || t28)) && (((r_).A ++ (r_).B) != ([] : Str))) && t42))
theorem Qnm {r_ : Qn} {r : Bool} (h : Qdn r_ = some r) : FnOk Tryz.prog 103 [Qt.ty r_] [] (fun _ => []) (fun _ => tb r) := by
 unfold Qdn at h
 refine fe Tryz.func103 Tryz.ntmps103 fun M0 M w0 a hpl H => ?_
 replace H : St M w0 44 [(0,Qt.ty r_)] [] a w0 := H
 refine sr mx [] H (fun _ => .o (QV (R := Qt) (u := r_) z0)<|.o (Qa .k)<|.n) fun _ a w H => ?_
 have H := H.to [0] [_] [] rfl rfl
 refine wp_seq_k (fun _ k2 => ?_)
 have ⟨t5,ht5,h⟩ := bs h
 have ⟨t9,ht9,h⟩ := bs h
 have ⟨t18,ht18,h⟩ := bs h
 have ⟨t28,ht28,h⟩ := bs h
 have ⟨u36,hu36,h⟩ := bs h
 have ⟨t42,ht42,h⟩ := bs h
 refine wr mx [] H (fun _ => .o (Qe Qh1 z0)<|.o (Qd (u := (r_).Name) tok9 z0 rfl)<|.o (Qf QcN (Qay ht5) (.cons (.of z0)<|.nil))<|.q 0 rfl<|.g rfl rfl bq0 (fun _ => Qe Qkc z4)<|.g rfl rfl bq1 (fun hc => Qd (u := (r_).Kind) tok9 (.cond z0 hc) rfl)<|.g rfl rfl bq2 (fun hc => Qf QcN (Qay (Qaj ht9 hc)) (.cons (.of (.cond z0 hc))<|.nil))<|.o (QW z3 (fun hp => (.cond z0 (beqT hp))))<|.q 0 rfl<|.g rfl rfl bq0 (fun _ => Qe QeW z9)<|.g rfl rfl bq1 (fun hc => Qd (u := (r_).A) tok9 (.cond z0 hc) rfl)<|.g rfl rfl bq2 (fun hc => Qa6 (.cond z0 hc) .k)<|.g rfl rfl bq3 (fun hc => Qq (.cond z0 hc))<|.g rfl rfl (.c 0 rfl) (fun _ => Qe QeW z13)<|.g rfl rfl (.c 1 rfl) (fun hc => Qd (u := (r_).A) tok9 (.cond z0 hc) rfl)<|.g rfl rfl (.c 2 rfl) (fun hc => Qf QcN (Qay (Qaj ht18 hc)) (.cons (.of (.cond z0 hc))<|.nil))<|.g rfl rfl bq7 (fun hc => Q6 (.cond z3 hc) (fun hp => (.cond z0 (Qc8 hc (beqF hp)))))<|.o (QW z8 (fun hp => (.cond z0 (beqT hp))))<|.q 0 rfl<|.g rfl rfl bq0 (fun _ => Qe QeX z19)<|.g rfl rfl bq1 (fun hc => Qd (u := (r_).B) tok9 (.cond z0 hc) rfl)<|.g rfl rfl bq2 (fun hc => Qa6 (.cond z0 hc) .k)<|.g rfl rfl bq3 (fun hc => Qq (.cond z0 hc))<|.g rfl rfl (.c 0 rfl) (fun _ => Qe QeX z23)<|.g rfl rfl (.c 1 rfl) (fun hc => Qd (u := (r_).B) tok9 (.cond z0 hc) rfl)<|.g rfl rfl (.c 2 rfl) (fun hc => Qf QcN (Qay (Qaj ht28 hc)) (.cons (.of (.cond z0 hc))<|.nil))<|.g rfl rfl bq7 (fun hc => Q6 (.cond z3 hc) (fun hp => (.cond z0 (Qc8 hc (beqF hp)))))<|.o (QW z8 (fun hp => (.cond z0 (beqT hp))))<|.q 0 rfl<|.g rfl rfl bq0 (fun _ => Qe QeW z29)<|.g rfl rfl bq1 (fun hc => Qd (u := (r_).A) tok9 (.cond z0 hc) rfl)<|.g rfl rfl bq2 (fun _ => Qe QeX (.t 31 rfl))<|.g rfl rfl bq3 (fun hc => Qd (u := (r_).B) tok9 (.cond z0 hc) rfl)<|.g rfl rfl bq4 (fun hc => Qan (.cond z2 hc) (.cond z0 hc) (Qaj hu36 hc))<|.g rfl rfl bq5 (fun hc => Qeb (.cond z0 hc) .k)<|.o (QW z6 (fun hp => (.cond z0 (beqT hp))))<|.q 0 rfl<|.g rfl rfl bq0 (fun _ => Qe QmU (.t 37 rfl))<|.g rfl rfl bq1 (fun hc => Qd (u := (r_).N) tok3 (.cond z0 hc) rfl)<|.g rfl rfl bq2 (fun hc => Qf Qim (QbD (Qaj ht42 hc)) (.cons (.of (.cond z0 hc))<|.cons (.of .k)<|.cons (.of .k)<|.nil))<|.o (QW z3 (fun hp => (.cond z0 (beqT hp))))<|.o (Qa z0)<|.n) fun _ a w H => ?_
 have H := H.to [41] [_] [] rfl rfl
 refine k2 _ _ ?_
 refine wp_ret ?_
 obtain rfl := sj h
 exact rt undef [] hpl H (.tmp z0 .nil)

/- diorama/schema.line -/
noncomputable def QaC (word_ : Str) (l_ : (List AnyV)) : Option (Str) := (Qaw ([] : Str) word_).bind fun t11 => (QF (fun (s7 : Int × Str) => ((if (decide (s7.1 < (l_.length : Int))) = true then (idx l_ s7.1).bind fun t16 => (Qhx s7.2 (32:Int)).bind fun t18 => ((if (t16).asInt.2 = true then (QlF (t16).asInt.1).bind fun t24 => (Qaw t18 t24).bind fun t25 => (some t25) else ((if (t16).asStr.2 = true then (Qaw t18 (t16).asStr.1).bind fun t30 => (some t30) else (some t18))).bind fun (p90 : Str) => (some p90))).bind fun (p77 : Str) => (some (.inl ((IntKind.i64.wrap (s7.1 + (1:Int))),p77))) else (some (.inr s7.2))) : Option ((Int × Str) ⊕ ((Str))))) ((0:Int),t11)).bind fun (p66 : (Str)) => (QfT p66).bind fun t32 => (cat (t32.length + ([10] : Str).length)).bind fun _ => (some (t32 ++ ([10] : Str)))
theorem Qbe {word_ : Str} {l_ : (List AnyV)} {r : Str} (h : QaC word_ l_ = some r) : FnOk Tryz.prog 135 [tv (.string (sB word_)),tsl (rAny 3 9) l_] [glo] (fun _ => []) (fun _ => tv (.string (sB r))) := by
 unfold QaC at h
 refine fe Tryz.func135 Tryz.ntmps135 fun M0 M w0 a hpl H => ?_
 replace H : St M w0 34 [(0,tv (.string (sB word_))),(1,tsl (rAny 3 9) l_)] [glo] a w0 := H
 refine sr mx [] H (fun _ => .o (Qa .k)<|.n) fun _ a w H => ?_
 have H := H.to [1,2] [_,_] [_] rfl rfl
 refine sr mx [v1 0 (fun v0 => bld ([] : Str) v0 nilV)] H (fun _ => .m [] [1] rfl rfl rfl (Qpc bInfo)<|.n) fun n1 a w H => ?_
 have H := H.to [0,1,2] [_,_,_] [_,_] rfl rfl
 have ⟨t11,ht11,h⟩ := bs h
 refine sr mx [v1 1 (fun v0 => bld t11 (n1 0) v0)] H (fun _ => .q 1 rfl<|.e [] [1] [2] rfl rfl rfl rfl (Qf Qhf (QbL ht11) (.cons (.of z1)<|.cons (.of z0)<|.nil))<|.n) fun n2 a w H => ?_
 have H := H.to [2,4] [_,_] [_,_] rfl rfl
 refine wp_seq_k (fun K5 k5 => ?_)
 refine sr mx [] H (fun _ => .q 1 rfl<|.o (QE QeL z0)<|.o (Qq .k)<|.n) fun _ a w H => ?_
 have H := H.to [0,1,2,3] [_,_,_,_] [_,_] rfl rfl
 have ⟨e8,he8,h⟩ := bs h
 have hJp66 : ∀ (p66 : Str) (v67 : Value) a w,p66 = e8 → St M w0 34 [(5,tv (n1 0))] [glo,bld p66 (n1 0) v67] a w → K5 a w := by
  intro p66 v67 a w he H
  subst he
  refine k5 _ _ ?_
  refine wp_seq_k (fun _ k68 => ?_)
  have ⟨t32,ht32,h⟩ := bs h
  have ⟨u33,hu33,h⟩ := bs h
  refine wr mx [] H (fun _ => .e [] [1] [] rfl rfl rfl rfl (Qf QqX (Qn3 ht32) (.cons (.of z0)<|.nil))<|.o (Qan z0 .k hu33)<|.o (Qa z0)<|.n) fun _ a w H => ?_
  have H := H.to [2] [_] [_] rfl rfl
  refine k68 _ _ ?_
  refine wp_ret ?_
  obtain rfl := sj h
  exact rt undef [] hpl H (.tmp z0 .nil)
 refine wp_block ?_
 refine QR _ (fun (s7 : Int × Str) a w => ∃ v37 : Value,St M w0 34 [(12,tsl (rAny 3 9) l_),(13,ti (l_.length : Int)),(14,ti s7.1),(5,tv (n1 0))] [glo,bld s7.2 (n1 0) v37] a w) _ _ he8 ⟨(n2 1),H.pick [0,1,2,3]⟩ ?_
 clear h
 intro s7 o a w K69 hI h ho k69
 obtain ⟨v37,H⟩ := hI
 refine sr mx [] H (fun _ => .o (QG z2 z1)<|.n) fun _ a w H => ?_
 have H := H.to [0,1,2,3,4] [_,_,_,_,_] [_,_] rfl rfl
 refine wp_seq_k (fun _ k71 => ?_)
 refine wi H h (fun b97 h => ?_) (fun b97 h => ?_)
 ·refine wp_skip (k71 _ _ ?_)
  refine wp_seq_k (fun K72 k72 => ?_)
  refine wp_block ?_
  have ⟨t16,ht16,h⟩ := bs h
  refine sr mx [] H (fun _ => .o (Qr QeL QeG z1 z3 ht16)<|.o (Qm QeG z0)<|.o (Qa z0)<|.n) fun _ a w H => ?_
  have H := H.to [2,4,5,6,7] [_,_,_,_,_] [_,_] rfl rfl
  have ⟨t18,ht18,h⟩ := bs h
  refine sr mx [v1 0 (fun v0 => bld t18 (n1 0) v0)] H (fun _ => .e [] [1] [2] rfl rfl rfl rfl (Qf QuP (Qpv ht18) (.cons (.of z4)<|.cons (.of .k)<|.nil))<|.n) fun n6 a w H => ?_
  have H := H.to [1,2,3,4,5] [_,_,_,_,_] [_,_] rfl rfl
  refine sr mx [] H (fun _ => .q 0 rfl<|.n) fun _ a w H => ?_
  have H := H.to [0,2,3,4,5] [_,_,_,_,_] [_,_] rfl rfl
  refine wp_block ?_
  refine sr mx [] H (fun _ => .o (op_asI (by decide) tok3 ud3 z0)<|.o (QU z0 rfl)<|.o (QU z1 rfl)<|.n) fun _ a w H => ?_
  have H := H.to [1,2,3,4,5,6,7] [_,_,_,_,_,_,_] [_,_] rfl rfl
  have ⟨p77,hp77,h⟩ := bs h
  have hJp77 : ∀ (v87 : Value) a w,St M w0 34 [(12,tsl (rAny 3 9) l_),(13,ti (l_.length : Int)),(14,ti s7.1),(5,tv (n1 0))] [glo,bld p77 (n1 0) v87] a w → K72 a w := by
   intro v87 a w H
   refine k72 _ _ ?_
   refine wr mx [] H (fun _ => .o (QQ z2 .k)<|.q 0 rfl<|.n) fun _ a w H => ?_
   have H := H.to [1,2,3,4] [_,_,_,_] [_,_] rfl rfl
   exact k69 _ _ _ (sj h).symm ⟨v87,H.pick [1,2,0,3]⟩
  replace h := hp77
  clear hp77
  refine wi H h (fun b96 h => ?_) (fun b96 h => ?_)
  ·refine sr mx [] H (fun _ => .o (Qa z1)<|.n) fun _ a w H => ?_
   have H := H.to [0,4,5,6,7] [_,_,_,_,_] [_,_] rfl rfl
   have ⟨t24,ht24,h⟩ := bs h
   have ⟨t25,ht25,h⟩ := bs h
   refine wr mx [v1 2 (fun v0 => bld t25 (n1 0) v0)] H (fun _ => .q 0 rfl<|.u [0] rfl rfl ((Qf QuQ (QuR ht24) (.cons (.of z0)<|.nil)).glo)<|.e [] [1] [2] rfl rfl rfl rfl (Qf Qhf (QbL ht25) (.cons (.of z6)<|.cons (.of z0)<|.nil))<|.n) fun n10 a w H => ?_
   have H := H.to [4,5,6,7] [_,_,_,_] [_,_] rfl rfl
   obtain rfl := sj h
   exact hJp77 (n10 2) _ _ (H.pick [0,1,2,3])
  refine sr mx [] H (fun _ => .o (op_asS (by decide) tok9 ud9 z2)<|.o (QU z0 rfl)<|.o (QU z1 rfl)<|.n) fun _ a w H => ?_
  have H := H.to [1,2,6,7,8,9] [_,_,_,_,_,_] [_,_] rfl rfl
  have ⟨p90,hp90,h⟩ := bs h
  have hJp90 : ∀ (v93 : Value) a w,St M w0 34 [(12,tsl (rAny 3 9) l_),(13,ti (l_.length : Int)),(14,ti s7.1),(5,tv (n1 0))] [glo,bld p90 (n1 0) v93] a w → K72 a w := by
   intro v93 a w H
   obtain rfl := sj h
   exact hJp77 v93 _ _ (H.pick [0,1,2,3])
  replace h := hp90
  clear hp90
  refine wi H h (fun b95 h => ?_) (fun b95 h => ?_)
  ·refine sr mx [] H (fun _ => .o (Qa z1)<|.n) fun _ a w H => ?_
   have H := H.to [0,3,4,5,6] [_,_,_,_,_] [_,_] rfl rfl
   have ⟨t30,ht30,h⟩ := bs h
   refine wr mx [v1 1 (fun v0 => bld t30 (n1 0) v0)] H (fun _ => .q 0 rfl<|.e [] [1] [2] rfl rfl rfl rfl (Qf Qhf (QbL ht30) (.cons (.of z5)<|.cons (.of z0)<|.nil))<|.n) fun n13 a w H => ?_
   have H := H.to [3,4,5,6] [_,_,_,_] [_,_] rfl rfl
   obtain rfl := sj h
   exact hJp90 (n13 1) _ _ (H.pick [0,1,2,3])
  refine wp_skip ?_
  obtain rfl := sj h
  exact hJp90 (n6 0) _ _ (H.pick [2,3,4,5])
 refine wp_exit ?_
 exact hJp66 _ v37 _ _ (ho _ (sj h).symm) (H.pick [4])

/- cmp.Or[string] -/
noncomputable def Qef (vals_ : (List Str)) : Option (Str) := (QF (fun (s5 : Int) => ((if (decide (s5 < (vals_.length : Int))) = true then (idx vals_ s5).bind fun t10 => (if (t10 != ([] : Str)) = true then (some (.inr (.inr t10))) else (some (.inl (IntKind.i64.wrap (s5 + (1:Int)))))) else (some (.inr (.inl ())))) : Option ((Int) ⊕ ((Unit) ⊕ (Str))))) (0:Int)).bind fun (e6 : (Unit) ⊕ (Str)) => (match e6 with | .inl _ => (some ([] : Str)) | .inr p24 => (some p24))
theorem Qnn {vals_ : (List Str)} {r : Str} (h : Qef vals_ = some r) : FnOk Tryz.prog 166 [tsl rS vals_] [] (fun _ => []) (fun _ => tv (.string (sB r))) := by
 unfold Qef at h
 refine fe Tryz.func166 Tryz.ntmps166 fun M0 M w0 a hpl H => ?_
 replace H : St M w0 18 [(0,tsl rS vals_)] [] a w0 := H
 refine sr mx [] H (fun _ => .o (Qa .k)<|.n) fun _ a w H => ?_
 have H := H.to [1] [_] [] rfl rfl
 refine sr mx [] H (fun _ => .o (Qa .k)<|.n) fun _ a w H => ?_
 have H := H.to [0,1] [_,_] [] rfl rfl
 refine wp_seq_k (fun K3 k3 => ?_)
 refine sr mx [] H (fun _ => .q 1 rfl<|.o (QE ud32 z0)<|.o (Qq .k)<|.n) fun _ a w H => ?_
 have H := H.to [0,1,2,3] [_,_,_,_] [] rfl rfl
 have ⟨e6,he6,h⟩ := bs h
 have hJp23 : ∀ (p23 : Unit) a w,(.inl p23) = e6 → St M w0 18 [(3,tv (.string (sB ([] : Str))))] [] a w → K3 a w := by
  intro p23 a w he H
  subst he
  simp only at h
  refine k3 _ _ ?_
  refine sr mx [] H (fun _ => .q 0 rfl<|.o (Qa z0)<|.n) fun _ a w H => ?_
  have H := H.to [1] [_] [] rfl rfl
  refine wp_ret ?_
  obtain rfl := sj h
  exact rt undef [] hpl H (.tmp z0 .nil)
 have hJp24 : ∀ (p24 : Str) a w,(.inr p24) = e6 → St M w0 18 [(2,tv (.string (sB p24)))] [] a w → Ret Tryz.prog Tryz.f166 M0 [] w0 (fun _ => []) (fun _ => tv (.string (sB r))) .ret a w := by
  intro p24 a w he H
  subst he
  simp only at h
  obtain rfl := sj h
  exact rt undef [] hpl H (.tmp z0 .nil)
 refine wp_block ?_
 refine QR _ (fun (s5 : Int) a w => St M w0 18 [(6,tsl rS vals_),(7,ti (vals_.length : Int)),(8,ti s5),(3,tv (.string (sB ([] : Str))))] [] a w) _ _ he6 (H.pick [0,1,2,3]) ?_
 clear h
 intro s5 o a w K26 hI h ho k26
 have H := hI
 clear hI
 refine sr mx [] H (fun _ => .o (QG z2 z1)<|.n) fun _ a w H => ?_
 have H := H.to [0,1,2,3,4] [_,_,_,_,_] [] rfl rfl
 refine wp_seq_k (fun _ k28 => ?_)
 refine wi H h (fun b34 h => ?_) (fun b34 h => ?_)
 ·refine wp_skip (k28 _ _ ?_)
  refine wp_seq_k (fun _ k29 => ?_)
  refine wp_block ?_
  have ⟨t10,ht10,h⟩ := bs h
  refine sr mx [] H (fun _ => .o (Qr ud32 tok9 z1 z3 ht10)<|.o (Qm tok9 z0)<|.o (Qa z0)<|.n) fun _ a w H => ?_
  have H := H.to [2,4,5,6,7] [_,_,_,_,_] [] rfl rfl
  refine sr mx [] H (fun _ => .q 0 rfl<|.q 5 rfl<|.o (Qeb z1 z0)<|.n) fun _ a w H => ?_
  have H := H.to [2,3,4,5,6,7] [_,_,_,_,_,_] [] rfl rfl
  refine wi H h (fun b33 h => ?_) (fun b33 h => ?_)
  ·refine sr mx [] H (fun _ => .q 1 rfl<|.o (Qa z0)<|.n) fun _ a w H => ?_
   have H := H.to [1] [_] [] rfl rfl
   refine wp_ret ?_
   exact hJp24 _ _ _ (ho _ (sj h).symm) (H.pick [0])
  refine wp_skip (k29 _ _ ?_)
  refine wr mx [] H (fun _ => .o (QQ z4 .k)<|.q 0 rfl<|.n) fun _ a w H => ?_
  have H := H.to [1,4,5,6] [_,_,_,_] [] rfl rfl
  exact k26 _ _ _ (sj h).symm (H.pick [1,2,0,3])
 refine wp_exit ?_
 exact hJp23 _ _ _ (ho _ (sj h).symm) (H.pick [4])

/- diorama/schema.named -/
noncomputable def Qcz (s_ : Str) : Option (Str) := (Qef [s_,([45] : Str)]).bind fun t5 => (some t5)
theorem Qir {s_ : Str} {r : Str} (h : Qcz s_ = some r) : FnOk Tryz.prog 137 [tv (.string (sB s_))] [] (fun _ => []) (fun _ => tv (.string (sB r))) := by
 unfold Qcz at h
 refine fe Tryz.func137 Tryz.ntmps137 fun M0 M w0 a hpl H => ?_
 replace H : St M w0 6 [(0,tv (.string (sB s_)))] [] a w0 := H
 refine sr mx [] H (fun _ => .o (Qa .k)<|.n) fun _ a w H => ?_
 have H := H.to [1] [_] [] rfl rfl
 have ⟨t5,ht5,h⟩ := bs h
 refine sr mx [] H (fun _ => .q 0 rfl<|.o (Qy (R := rS) (us := [s_,([45] : Str)]) ud32 tok9 (.cons z0<|.cons .k<|.nil _) rfl (leb rfl))<|.o (Qf Qux (Qnn ht5) (.cons (.of z0)<|.nil))<|.o (Qa z0)<|.n) fun _ a w H => ?_
 have H := H.to [3] [_] [] rfl rfl
 refine wp_ret ?_
 obtain rfl := sj h
 exact rt undef [] hpl H (.tmp z0 .nil)

/- diorama/schema.field -/
noncomputable def QdO (f_ : Qc) : Option (Str) := (idx Qkk (f_).Kind).bind fun t9 => (if ((f_).Kind == (0:Int)) = true then (QaC t9 [(AnyV.str (f_).Name),(AnyV.int (f_).Lo)]).bind fun t23 => (some t23) else (if ((f_).Kind == (2:Int)) = true then (QaC t9 [(AnyV.str (f_).Name),(AnyV.int (f_).Lo),(AnyV.int (f_).Hi)]).bind fun t37 => (some t37) else (if ((f_).Kind == (3:Int)) = true then (QF (fun (s14 : Int × List AnyV) => ((if (decide (s14.1 < ((f_).Words.length : Int))) = true then (idx (f_).Words s14.1).bind fun t54 => (idx (f_).Weights s14.1).bind fun t62 => (rm (s14.2.length + [(AnyV.str t54),(AnyV.int t62)].length)).bind fun _ => (some (.inl ((IntKind.i64.wrap (s14.1 + (1:Int))),(s14.2 ++ [(AnyV.str t54),(AnyV.int t62)])))) else (some (.inr s14.2))) : Option ((Int × List AnyV) ⊕ ((List AnyV))))) ((0:Int),[(AnyV.str (f_).Name),(AnyV.int ((f_).Words.length : Int))])).bind fun (p27 : (List AnyV)) => (QaC t9 p27).bind fun t70 => (some t70) else (if ((f_).Kind == (6:Int)) = true then (QaC t9 [(AnyV.str (f_).Name),(AnyV.str (f_).Of)]).bind fun t81 => (some t81) else (if ((f_).Kind == (7:Int)) = true then (QaC t9 [(AnyV.str (f_).Name),(AnyV.str (f_).Up),(AnyV.str (f_).Of),(AnyV.int (f_).Lo),(AnyV.int (f_).Hi)]).bind fun t101 => (some t101) else (if ((f_).Kind == (8:Int)) = true then (QaC t9 [(AnyV.str (f_).Name),(AnyV.str (f_).Up),(AnyV.str (f_).Of)]).bind fun t115 => (some t115) else (Qcz (f_).Of).bind fun t122 => (QaC t9 [(AnyV.str (f_).Name),(AnyV.str t122),(AnyV.int (f_).Lo),(AnyV.int (f_).Hi)]).bind fun t131 => (some t131)))))))
theorem Qn7 {f_ : Qc} {r : Str} (h : QdO f_ = some r) : FnOk Tryz.prog 136 [Qb.ty f_] [glo] (fun _ => []) (fun _ => tv (.string (sB r))) := by
 unfold QdO at h
 refine fe Tryz.func136 Tryz.ntmps136 fun M0 M w0 a hpl H => ?_
 replace H : St M w0 132 [(0,Qb.ty f_)] [glo] a w0 := H
 refine sr mx [] H (fun _ => .o (QV (R := Qb) (u := f_) z0)<|.o (Qa .k)<|.n) fun _ a w H => ?_
 have H := H.to [0] [_] [_] rfl rfl
 have ⟨t9,ht9,h⟩ := bs h
 refine sr mx [] H (fun _ => .o (Qe Qao z0)<|.o (Qd (u := (f_).Kind) tok3 z0 rfl)<|.u [0] rfl rfl (QpX Tryz.underlying210 tok9 QsW rfl z0 rfl ht9)<|.o (Qm tok9 z0)<|.o (Qa z0)<|.n) fun _ a w H => ?_
 have H := H.to [4,5] [_,_] [_] rfl rfl
 refine wp_seq_k (fun _ k3 => ?_)
 refine sr mx [] H (fun _ => .o (Qe Qao z1)<|.o (Qd (u := (f_).Kind) tok3 z0 rfl)<|.n) fun _ a w H => ?_
 have H := H.to [1,2,3] [_,_,_] [_] rfl rfl
 refine wp_block ?_
 refine sr mx [] H (fun _ => .o (QM z0 .k)<|.o (Qa z0)<|.n) fun _ a w H => ?_
 have H := H.to [1,2,3,4] [_,_,_,_] [_] rfl rfl
 refine wi H h (fun b48 h => ?_) (fun b48 h => ?_)
 ·have ⟨t23,ht23,h⟩ := bs h
  refine sr mx [] H (fun _ => .q 2 rfl<|.o (Qe Qbd z4)<|.o (Qd (u := (f_).Name) tok9 z0 rfl)<|.o (Qcr ud9 z0)<|.o (Qe QaE z7)<|.o (Qd (u := (f_).Lo) tok3 z0 rfl)<|.o (QdY ud3 z0)<|.o (Qy (R := (rAny 3 9)) (us := [(AnyV.str (f_).Name),(AnyV.int (f_).Lo)]) QeL QeG (.cons z3<|.cons z0<|.nil _) rfl (leb rfl))<|.u [0] rfl rfl ((Qf QeY (Qbe ht23) (.cons (.of z7)<|.cons (.of z0)<|.nil)).glo)<|.o (Qa z0)<|.n) fun _ a w H => ?_
  have H := H.to [9] [_] [_] rfl rfl
  refine wp_ret ?_
  obtain rfl := sj h
  exact rt undef [] hpl H (.tmp z0 .nil)
 refine sr mx [] H (fun _ => .o (QM z1 .k)<|.o (Qa z0)<|.n) fun _ a w H => ?_
 have H := H.to [1,3,4,5] [_,_,_,_] [_] rfl rfl
 refine wi H h (fun b47 h => ?_) (fun b47 h => ?_)
 ·have ⟨t37,ht37,h⟩ := bs h
  refine sr mx [] H (fun _ => .q 2 rfl<|.o (Qe Qbd z4)<|.o (Qd (u := (f_).Name) tok9 z0 rfl)<|.o (Qcr ud9 z0)<|.o (Qe QaE z7)<|.o (Qd (u := (f_).Lo) tok3 z0 rfl)<|.o (QdY ud3 z0)<|.o (Qe QaV z10)<|.o (Qd (u := (f_).Hi) tok3 z0 rfl)<|.o (QdY ud3 z0)<|.o (Qy (R := (rAny 3 9)) (us := [(AnyV.str (f_).Name),(AnyV.int (f_).Lo),(AnyV.int (f_).Hi)]) QeL QeG (.cons z6<|.cons z3<|.cons z0<|.nil _) rfl (leb rfl))<|.u [0] rfl rfl ((Qf QeY (Qbe ht37) (.cons (.of z10)<|.cons (.of z0)<|.nil)).glo)<|.o (Qa z0)<|.n) fun _ a w H => ?_
  have H := H.to [12] [_] [_] rfl rfl
  refine wp_ret ?_
  obtain rfl := sj h
  exact rt undef [] hpl H (.tmp z0 .nil)
 refine sr mx [] H (fun _ => .o (QM z1 .k)<|.o (Qa z0)<|.n) fun _ a w H => ?_
 have H := H.to [1,3,4,5] [_,_,_,_] [_] rfl rfl
 refine wi H h (fun b46 h => ?_) (fun b46 h => ?_)
 ·refine sr mx [v1 7 (fun v0 => own (rAny 3 9) 20 [(AnyV.str (f_).Name),(AnyV.int ((f_).Words.length : Int))] v0)] H (fun _ => .o (Qe Qbd z3)<|.o (Qd (u := (f_).Name) tok9 z0 rfl)<|.o (Qcr ud9 z0)<|.o (Qe QcM z6)<|.o (Qd (u := (f_).Words) Qbx z0 rfl)<|.o (QE ud32 z0)<|.o (QdY ud3 z0)<|.m [] [1] rfl rfl rfl (Qb3 (R := (rAny 3 9)) (us := [(AnyV.str (f_).Name),(AnyV.int ((f_).Words.length : Int))]) QeL QeG (.cons z4<|.cons z0<|.nil _) rfl (leb rfl) (leb rfl))<|.ud (f := fun v => tv v) 7 rfl [] rfl rfl (Qa z0)<|.n) fun n8 a w H => ?_
  have H := H.to [7,8,11,12] [_,_,_,_] [_,_] rfl rfl
  refine wp_seq_k (fun K12 k12 => ?_)
  refine sr mx [] H (fun _ => .o (Qe QcM z3)<|.o (Qd (u := (f_).Words) Qbx z0 rfl)<|.o (QE ud32 z0)<|.o (Qq .k)<|.n) fun _ a w H => ?_
  have H := H.to [1,2,3,4,5,6,7] [_,_,_,_,_,_,_] [_,_] rfl rfl
  have ⟨e15,he15,h⟩ := bs h
  have hJp27 : ∀ (p27 : List AnyV) (v28 : Value) a w,p27 = e15 → St M w0 132 [(4,tv v28),(3,tv (.string (sB t9)))] [glo,own (rAny 3 9) 20 p27 v28] a w → K12 a w := by
   intro p27 v28 a w he H
   subst he
   refine k12 _ _ ?_
   have ⟨t70,ht70,h⟩ := bs h
   refine sr mx [] H (fun _ => .q 1 rfl<|.q 1 rfl<|.u [0,1] rfl rfl ((QhV [own (rAny 3 9) 20 p27 v28] QeY (Qbe ht70) (.cons (.of z1)<|.cons (.own z0 (.head _))<|.nil) (fun _ => QhU) (fun _ => Qmi (x := undef))).glo)<|.o (Qa z0)<|.n) fun _ a w H => ?_
   have H := H.to [1,3,4] [_,_,_] [_,_] rfl rfl
   refine wp_ret ?_
   obtain rfl := sj h
   exact rt undef [] hpl H (.tmp z1 .nil)
  refine wp_block ?_
  refine QR _ (fun (s14 : Int × List AnyV) a w => ∃ v21 : Value,St M w0 132 [(49,tsl rS (f_).Words),(50,ti ((f_).Words.length : Int)),(51,ti s14.1),(4,tv v21),(3,tv (.string (sB t9))),(1,tptr (Qb.cs f_))] [glo,own (rAny 3 9) 20 s14.2 v21] a w) _ _ he15 ⟨(n8 7),H.pick [0,1,2,4,5,6]⟩ ?_
  clear h
  intro s14 o a w K30 hI h ho k30
  obtain ⟨v21,H⟩ := hI
  refine sr mx [] H (fun _ => .o (QG z2 z1)<|.n) fun _ a w H => ?_
  have H := H.to [0,1,2,3,4,5,6] [_,_,_,_,_,_,_] [_,_] rfl rfl
  refine wp_seq_k (fun _ k32 => ?_)
  refine wi H h (fun b35 h => ?_) (fun b35 h => ?_)
  ·refine wp_skip (k32 _ _ ?_)
   refine wp_seq_k (fun _ k33 => ?_)
   refine wp_block ?_
   have ⟨t54,ht54,h⟩ := bs h
   refine sr mx [] H (fun _ => .q 3 rfl<|.o (Qr ud32 tok9 z2 z4 ht54)<|.o (Qm tok9 z0)<|.o (Qa z2)<|.o (Qa z1)<|.n) fun _ a w H => ?_
   have H := H.to [3,4,6,7,8,9,10,11] [_,_,_,_,_,_,_,_] [_,_] rfl rfl
   have ⟨t62,ht62,h⟩ := bs h
   have ⟨u66,hu66,h⟩ := bs h
   refine wr mx [v1 10 (fun v0 => own (rAny 3 9) 20 (s14.2 ++ [(AnyV.str t54),(AnyV.int t62)]) v0)] H (fun _ => .q 5 rfl<|.q 2 rfl<|.o (Qcr ud9 z0)<|.o (Qe Qcl z10)<|.o (Qd (u := (f_).Weights) Qdc z0 rfl)<|.q 5 rfl<|.o (Qr ud22 tok3 z1 z0 ht62)<|.o (Qm tok3 z0)<|.o (QdY ud3 z0)<|.o (Qy (R := (rAny 3 9)) (us := [(AnyV.str t54),(AnyV.int t62)]) QeL QeG (.cons z6<|.cons z0<|.nil _) rfl (leb rfl))<|.e [] [1] [2] rfl rfl rfl rfl (Qag (R := (rAny 3 9)) QeL QeG (leb rfl) z9 z0 hu66)<|.ud (f := fun v => tv v) 10 rfl [] rfl rfl (Qa z0)<|.n) fun n12 a w H => ?_
   have H := H.to [10,11,14,15,16,17,18] [_,_,_,_,_,_,_] [_,_] rfl rfl
   refine k33 _ _ ?_
   refine wr mx [] H (fun _ => .o (QQ z4 .k)<|.q 0 rfl<|.n) fun _ a w H => ?_
   have H := H.to [1,2,3,4,5,6,7] [_,_,_,_,_,_,_] [_,_] rfl rfl
   exact k30 _ _ _ (sj h).symm ⟨(n12 10),H.pick [3,4,0,2,5,6]⟩
  refine wp_exit ?_
  exact hJp27 _ v21 _ _ (ho _ (sj h).symm) (H.pick [4,5])
 refine sr mx [] H (fun _ => .o (QM z1 .k)<|.o (Qa z0)<|.n) fun _ a w H => ?_
 have H := H.to [1,3,4,5] [_,_,_,_] [_] rfl rfl
 refine wi H h (fun b45 h => ?_) (fun b45 h => ?_)
 ·have ⟨t81,ht81,h⟩ := bs h
  refine sr mx [] H (fun _ => .q 2 rfl<|.o (Qe Qbd z4)<|.o (Qd (u := (f_).Name) tok9 z0 rfl)<|.o (Qcr ud9 z0)<|.o (Qe Qas z7)<|.o (Qd (u := (f_).Of) tok9 z0 rfl)<|.o (Qcr ud9 z0)<|.o (Qy (R := (rAny 3 9)) (us := [(AnyV.str (f_).Name),(AnyV.str (f_).Of)]) QeL QeG (.cons z3<|.cons z0<|.nil _) rfl (leb rfl))<|.u [0] rfl rfl ((Qf QeY (Qbe ht81) (.cons (.of z7)<|.cons (.of z0)<|.nil)).glo)<|.o (Qa z0)<|.n) fun _ a w H => ?_
  have H := H.to [9] [_] [_] rfl rfl
  refine wp_ret ?_
  obtain rfl := sj h
  exact rt undef [] hpl H (.tmp z0 .nil)
 refine sr mx [] H (fun _ => .o (QM z1 .k)<|.o (Qa z0)<|.n) fun _ a w H => ?_
 have H := H.to [1,3,4,5] [_,_,_,_] [_] rfl rfl
 refine wi H h (fun b44 h => ?_) (fun b44 h => ?_)
 ·have ⟨t101,ht101,h⟩ := bs h
  refine sr mx [] H (fun _ => .q 2 rfl<|.o (Qe Qbd z4)<|.o (Qd (u := (f_).Name) tok9 z0 rfl)<|.o (Qcr ud9 z0)<|.o (Qe Qda z7)<|.o (Qd (u := (f_).Up) tok9 z0 rfl)<|.o (Qcr ud9 z0)<|.o (Qe Qas z10)<|.o (Qd (u := (f_).Of) tok9 z0 rfl)<|.o (Qcr ud9 z0)<|.o (Qe QaE z13)<|.o (Qd (u := (f_).Lo) tok3 z0 rfl)<|.o (QdY ud3 z0)<|.o (Qe QaV z16)<|.o (Qd (u := (f_).Hi) tok3 z0 rfl)<|.o (QdY ud3 z0)<|.o (Qy (R := (rAny 3 9)) (us := [(AnyV.str (f_).Name),(AnyV.str (f_).Up),(AnyV.str (f_).Of),(AnyV.int (f_).Lo),(AnyV.int (f_).Hi)]) QeL QeG (.cons z12<|.cons z9<|.cons z6<|.cons z3<|.cons z0<|.nil _) rfl (leb rfl))<|.u [0] rfl rfl ((Qf QeY (Qbe ht101) (.cons (.of z16)<|.cons (.of z0)<|.nil)).glo)<|.o (Qa z0)<|.n) fun _ a w H => ?_
  have H := H.to [18] [_] [_] rfl rfl
  refine wp_ret ?_
  obtain rfl := sj h
  exact rt undef [] hpl H (.tmp z0 .nil)
 refine sr mx [] H (fun _ => .o (QM z1 .k)<|.o (Qa z0)<|.n) fun _ a w H => ?_
 have H := H.to [1,4,5] [_,_,_] [_] rfl rfl
 refine wi H h (fun b43 h => ?_) (fun b43 h => ?_)
 ·have ⟨t115,ht115,h⟩ := bs h
  refine sr mx [] H (fun _ => .q 1 rfl<|.o (Qe Qbd z3)<|.o (Qd (u := (f_).Name) tok9 z0 rfl)<|.o (Qcr ud9 z0)<|.o (Qe Qda z6)<|.o (Qd (u := (f_).Up) tok9 z0 rfl)<|.o (Qcr ud9 z0)<|.o (Qe Qas z9)<|.o (Qd (u := (f_).Of) tok9 z0 rfl)<|.o (Qcr ud9 z0)<|.o (Qy (R := (rAny 3 9)) (us := [(AnyV.str (f_).Name),(AnyV.str (f_).Up),(AnyV.str (f_).Of)]) QeL QeG (.cons z6<|.cons z3<|.cons z0<|.nil _) rfl (leb rfl))<|.u [0] rfl rfl ((Qf QeY (Qbe ht115) (.cons (.of z10)<|.cons (.of z0)<|.nil)).glo)<|.o (Qa z0)<|.n) fun _ a w H => ?_
  have H := H.to [12] [_] [_] rfl rfl
  refine wp_ret ?_
  obtain rfl := sj h
  exact rt undef [] hpl H (.tmp z0 .nil)
 refine wp_skip (k3 _ _ ?_)
 have ⟨t122,ht122,h⟩ := bs h
 have ⟨t131,ht131,h⟩ := bs h
 refine sr mx [] H (fun _ => .q 1 rfl<|.o (Qe Qbd z3)<|.o (Qd (u := (f_).Name) tok9 z0 rfl)<|.o (Qcr ud9 z0)<|.o (Qe Qas z6)<|.o (Qd (u := (f_).Of) tok9 z0 rfl)<|.o (Qf QoD (Qir ht122) (.cons (.of z0)<|.nil))<|.o (Qcr ud9 z0)<|.o (Qe QaE z10)<|.o (Qd (u := (f_).Lo) tok3 z0 rfl)<|.o (QdY ud3 z0)<|.o (Qe QaV z13)<|.o (Qd (u := (f_).Hi) tok3 z0 rfl)<|.o (QdY ud3 z0)<|.o (Qy (R := (rAny 3 9)) (us := [(AnyV.str (f_).Name),(AnyV.str t122),(AnyV.int (f_).Lo),(AnyV.int (f_).Hi)]) QeL QeG (.cons z10<|.cons z6<|.cons z3<|.cons z0<|.nil _) rfl (leb rfl))<|.u [0] rfl rfl ((Qf QeY (Qbe ht131) (.cons (.of z14)<|.cons (.of z0)<|.nil)).glo)<|.o (Qa z0)<|.n) fun _ a w H => ?_
 have H := H.to [16] [_] [_] rfl rfl
 refine wp_ret ?_
 obtain rfl := sj h
 exact rt undef [] hpl H (.tmp z0 .nil)

/- diorama/schema.source -/
noncomputable def Qdo (x_ : Qh) : Option (Str) := (QaC ([115,99,104,101,109,97] : Str) [(AnyV.int (x_).Version)]).bind fun t21 => (Qaw ([] : Str) t21).bind fun t22 => (QF (fun (s7 : Int × Str) => ((if (decide (s7.1 < ((x_).Kinds.length : Int))) = true then (idx (x_).Kinds s7.1).bind fun t28 => (QaC ([107,105,110,100] : Str) [(AnyV.str (t28).Name),(AnyV.int (t28).Lo),(AnyV.int (t28).Hi)]).bind fun t40 => (Qaw s7.2 t40).bind fun t41 => (QF (fun (s290 : Int × Str) => ((if (decide (s290.1 < ((t28).Fields.length : Int))) = true then (idx (t28).Fields s290.1).bind fun t47 => (QdO t47).bind fun t50 => (Qaw s290.2 t50).bind fun t51 => (some (.inl ((IntKind.i64.wrap (s290.1 + (1:Int))),t51))) else (some (.inr s290.2))) : Option ((Int × Str) ⊕ ((Str))))) ((0:Int),t41)).bind fun (p305 : (Str)) => (some (.inl ((IntKind.i64.wrap (s7.1 + (1:Int))),p305))) else (some (.inr s7.2))) : Option ((Int × Str) ⊕ ((Str))))) ((0:Int),t22)).bind fun (p74 : (Str)) => (QF (fun (s78 : Int × Str) => ((if (decide (s78.1 < ((x_).Lives.length : Int))) = true then (idx (x_).Lives s78.1).bind fun t59 => (QF (fun (s234 : Int × List AnyV) => ((if (decide (s234.1 < ((t59).States.length : Int))) = true then (idx (t59).States s234.1).bind fun t74 => (rm (s234.2.length + [(AnyV.str t74)].length)).bind fun _ => (some (.inl ((IntKind.i64.wrap (s234.1 + (1:Int))),(s234.2 ++ [(AnyV.str t74)])))) else (some (.inr s234.2))) : Option ((Int × List AnyV) ⊕ ((List AnyV))))) ((0:Int),[(AnyV.str (t59).Name),(AnyV.int ((t59).States.length : Int))])).bind fun (p247 : (List AnyV)) => (QaC ([108,105,102,101] : Str) p247).bind fun t83 => (Qaw s78.2 t83).bind fun t84 => (QF (fun (s251 : Int × Str) => ((if (decide (s251.1 < ((t59).Moves.length : Int))) = true then (idx (t59).Moves s251.1).bind fun t90 => (QaC ([109,111,118,101] : Str) [(AnyV.int (t90).a0),(AnyV.int (t90).a1)]).bind fun t99 => (Qaw s251.2 t99).bind fun t100 => (some (.inl ((IntKind.i64.wrap (s251.1 + (1:Int))),t100))) else (some (.inr s251.2))) : Option ((Int × Str) ⊕ ((Str))))) ((0:Int),t84)).bind fun (p266 : (Str)) => (some (.inl ((IntKind.i64.wrap (s78.1 + (1:Int))),p266))) else (some (.inr s78.2))) : Option ((Int × Str) ⊕ ((Str))))) ((0:Int),p74)).bind fun (p195 : (Str)) => (QF (fun (s199 : Int × Str) => ((if (decide (s199.1 < ((x_).Rules.length : Int))) = true then (idx (x_).Rules s199.1).bind fun t108 => (Qcz (t108).A).bind fun t118 => (Qcz (t108).B).bind fun t122 => (QaC ([114,117,108,101] : Str) [(AnyV.str (t108).Name),(AnyV.str (t108).Kind),(AnyV.str t118),(AnyV.str t122),(AnyV.int (t108).N)]).bind fun t128 => (Qaw s199.2 t128).bind fun t129 => (some (.inl ((IntKind.i64.wrap (s199.1 + (1:Int))),t129))) else (some (.inr s199.2))) : Option ((Int × Str) ⊕ ((Str))))) ((0:Int),p195)).bind fun (p214 : (Str)) => (QfT p214).bind fun t131 => (some t131)
theorem Qno {x_ : Qh} {r : Str} (h : Qdo x_ = some r) : FnOk Tryz.prog 104 [Qg.ty x_] [glo] (fun _ => []) (fun _ => tv (.string (sB r))) := by
 unfold Qdo at h
 refine fe Tryz.func104 Tryz.ntmps104 fun M0 M w0 a hpl H => ?_
 replace H : St M w0 132 [(0,Qg.ty x_)] [glo] a w0 := H
 refine sr mx [] H (fun _ => .o (QV (R := Qg) (u := x_) z0)<|.o (Qa .k)<|.n) fun _ a w H => ?_
 have H := H.to [0] [_] [_] rfl rfl
 refine sr mx [v1 0 (fun v0 => bld ([] : Str) v0 nilV)] H (fun _ => .m [] [1] rfl rfl rfl (Qpc bInfo)<|.n) fun n1 a w H => ?_
 have H := H.to [0,1] [_,_] [_,_] rfl rfl
 have ⟨t21,ht21,h⟩ := bs h
 have ⟨t22,ht22,h⟩ := bs h
 refine sr mx [v1 5 (fun v0 => bld t22 (n1 0) v0)] H (fun _ => .o (Qe Qkb z1)<|.o (Qd (u := (x_).Version) tok3 z0 rfl)<|.o (QdY ud3 z0)<|.o (Qy (R := (rAny 3 9)) (us := [(AnyV.int (x_).Version)]) QeL QeG (.cons z0<|.nil _) rfl (leb rfl))<|.u [0] rfl rfl ((Qf QeY (Qbe ht21) (.cons (.of .k)<|.cons (.of z0)<|.nil)).glo)<|.e [] [1] [2] rfl rfl rfl rfl (Qf Qhf (QbL ht22) (.cons (.of z5)<|.cons (.of z0)<|.nil))<|.n) fun n2 a w H => ?_
 have H := H.to [6,7] [_,_] [_,_] rfl rfl
 refine wp_seq_k (fun K5 k5 => ?_)
 refine sr mx [] H (fun _ => .o (Qe Q9 z1)<|.o (Qd (u := (x_).Kinds) QaF z0 rfl)<|.o (QE ud23 z0)<|.o (Qq .k)<|.n) fun _ a w H => ?_
 have H := H.to [1,2,3,4,5] [_,_,_,_,_] [_,_] rfl rfl
 have ⟨e8,he8,h⟩ := bs h
 have hJp74 : ∀ (p74 : Str) (v75 : Value) a w,p74 = e8 → St M w0 132 [(3,tv (n1 0)),(1,tptr (Qg.cs x_))] [glo,bld p74 (n1 0) v75] a w → K5 a w := by
  intro p74 v75 a w he H
  subst he
  refine k5 _ _ ?_
  refine wp_seq_k (fun K76 k76 => ?_)
  refine sr mx [] H (fun _ => .o (Qe Qbc z1)<|.o (Qd (u := (x_).Lives) QeH z0 rfl)<|.o (QE ud24 z0)<|.o (Qq .k)<|.n) fun _ a w H => ?_
  have H := H.to [1,2,3,4,5] [_,_,_,_,_] [_,_] rfl rfl
  have ⟨e79,he79,h⟩ := bs h
  have hJp195 : ∀ (p195 : Str) (v196 : Value) a w,p195 = e79 → St M w0 132 [(3,tv (n1 0)),(1,tptr (Qg.cs x_))] [glo,bld p195 (n1 0) v196] a w → K76 a w := by
   intro p195 v196 a w he H
   subst he
   refine k76 _ _ ?_
   refine wp_seq_k (fun K197 k197 => ?_)
   refine sr mx [] H (fun _ => .o (Qe QbH z1)<|.o (Qd (u := (x_).Rules) Qfp z0 rfl)<|.o (QE ud25 z0)<|.o (Qq .k)<|.n) fun _ a w H => ?_
   have H := H.to [1,2,3,4] [_,_,_,_] [_,_] rfl rfl
   have ⟨e200,he200,h⟩ := bs h
   have hJp214 : ∀ (p214 : Str) (v215 : Value) a w,p214 = e200 → St M w0 132 [(3,tv (n1 0))] [glo,bld p214 (n1 0) v215] a w → K197 a w := by
    intro p214 v215 a w he H
    subst he
    refine k197 _ _ ?_
    have ⟨t131,ht131,h⟩ := bs h
    refine sr mx [] H (fun _ => .e [] [1] [] rfl rfl rfl rfl (Qf QqX (Qn3 ht131) (.cons (.of z0)<|.nil))<|.o (Qa z0)<|.n) fun _ a w H => ?_
    have H := H.to [1] [_] [_] rfl rfl
    refine wp_ret ?_
    obtain rfl := sj h
    exact rt undef [] hpl H (.tmp z0 .nil)
   refine wp_block ?_
   refine QR _ (fun (s199 : Int × Str) a w => ∃ v207 : Value,St M w0 132 [(104,tsl Qt (x_).Rules),(105,ti ((x_).Rules.length : Int)),(106,ti s199.1),(3,tv (n1 0))] [glo,bld s199.2 (n1 0) v207] a w) _ _ he200 ⟨v196,H.pick [0,1,2,3]⟩ ?_
   clear h
   intro s199 o a w K217 hI h ho k217
   obtain ⟨v207,H⟩ := hI
   refine sr mx [] H (fun _ => .o (QG z2 z1)<|.n) fun _ a w H => ?_
   have H := H.to [0,1,2,3,4] [_,_,_,_,_] [_,_] rfl rfl
   refine wp_seq_k (fun _ k219 => ?_)
   refine wi H h (fun b223 h => ?_) (fun b223 h => ?_)
   ·refine wp_skip (k219 _ _ ?_)
    refine wp_seq_k (fun _ k220 => ?_)
    refine wp_block ?_
    have ⟨t108,ht108,h⟩ := bs h
    refine sr mx [v1 2 (fun v0 => box (Qt.cs zz3) v0),v1 2 (fun v0 => box (Qt.cs t108) v0)] H (fun _ => .o (Qr ud25 QaU z1 z3 ht108)<|.o (Qm QaU z0)<|.m [] [2] rfl rfl rfl (Q0 (R := Qt) (a := zz3) QaU QmS)<|.e [] [2] [3] rfl rfl rfl rfl (QS (R := Qt) (a := t108) QaU z0 z1 (leb rfl))<|.n) fun _ a w H => ?_
    replace H : St _ _ _ [_,_,_,_,_] [_,_] _ _ := ((((H.pick [2,4,5,6,7]).selA [2,0,1] rfl).shareB 0 rfl).add 0 rfl (fun _ _ _ h => h.2)).pick [0,3,4,5,6]
    have ⟨t118,ht118,h⟩ := bs h
    have ⟨t122,ht122,h⟩ := bs h
    have ⟨t128,ht128,h⟩ := bs h
    have ⟨t129,ht129,h⟩ := bs h
    refine wr mx [v1 19 (fun v0 => bld t129 (n1 0) v0)] H (fun _ => .o (Qe Qh1 z0)<|.o (Qd (u := (t108).Name) tok9 z0 rfl)<|.o (Qcr ud9 z0)<|.o (Qe Qkc z3)<|.o (Qd (u := (t108).Kind) tok9 z0 rfl)<|.o (Qcr ud9 z0)<|.o (Qe QeW z6)<|.o (Qd (u := (t108).A) tok9 z0 rfl)<|.o (Qf QoD (Qir ht118) (.cons (.of z0)<|.nil))<|.o (Qcr ud9 z0)<|.o (Qe QeX z10)<|.o (Qd (u := (t108).B) tok9 z0 rfl)<|.o (Qf QoD (Qir ht122) (.cons (.of z0)<|.nil))<|.o (Qcr ud9 z0)<|.o (Qe QmU z14)<|.o (Qd (u := (t108).N) tok3 z0 rfl)<|.o (QdY ud3 z0)<|.o (Qy (R := (rAny 3 9)) (us := [(AnyV.str (t108).Name),(AnyV.str (t108).Kind),(AnyV.str t118),(AnyV.str t122),(AnyV.int (t108).N)]) QeL QeG (.cons z14<|.cons z11<|.cons z7<|.cons z3<|.cons z0<|.nil _) rfl (leb rfl))<|.u [0] rfl rfl ((Qf QeY (Qbe ht128) (.cons (.of .k)<|.cons (.of z0)<|.nil)).glo)<|.e [] [1] [2] rfl rfl rfl rfl (Qf Qhf (QbL ht129) (.cons (.of z23)<|.cons (.of z0)<|.nil))<|.n) fun n32 a w H => ?_
    have H := H.to [21,22,23,24] [_,_,_,_] [_,_] rfl rfl
    refine k220 _ _ ?_
    refine wr mx [] H (fun _ => .o (QQ z2 .k)<|.q 0 rfl<|.n) fun _ a w H => ?_
    have H := H.to [1,2,3,4] [_,_,_,_] [_,_] rfl rfl
    exact k217 _ _ _ (sj h).symm ⟨(n32 19),H.pick [1,2,0,3]⟩
   refine wp_exit ?_
   exact hJp214 _ v207 _ _ (ho _ (sj h).symm) (H.pick [4])
  refine wp_block ?_
  refine QR _ (fun (s78 : Int × Str) a w => ∃ v137 : Value,St M w0 132 [(55,tsl Qz (x_).Lives),(56,ti ((x_).Lives.length : Int)),(57,ti s78.1),(3,tv (n1 0)),(1,tptr (Qg.cs x_))] [glo,bld s78.2 (n1 0) v137] a w) _ _ he79 ⟨v75,H.pick [0,1,2,3,4]⟩ ?_
  clear h
  intro s78 o a w K224 hI h ho k224
  obtain ⟨v137,H⟩ := hI
  refine sr mx [] H (fun _ => .o (QG z2 z1)<|.n) fun _ a w H => ?_
  have H := H.to [0,1,2,3,4,5] [_,_,_,_,_,_] [_,_] rfl rfl
  refine wp_seq_k (fun _ k226 => ?_)
  refine wi H h (fun b281 h => ?_) (fun b281 h => ?_)
  ·refine wp_skip (k226 _ _ ?_)
   refine wp_seq_k (fun K227 k227 => ?_)
   refine wp_block ?_
   have ⟨t59,ht59,h⟩ := bs h
   refine sr mx [v1 2 (fun v0 => box (Qz.cs zz2) v0),v1 2 (fun v0 => box (Qz.cs t59) v0)] H (fun _ => .o (Qr ud24 Qby z1 z3 ht59)<|.o (Qm Qby z0)<|.m [] [2] rfl rfl rfl (Q0 (R := Qz) (a := zz2) Qby QpE)<|.e [] [2] [3] rfl rfl rfl rfl (QS (R := Qz) (a := t59) Qby z0 z1 (leb rfl))<|.n) fun _ a w H => ?_
   replace H : St _ _ _ [_,_,_,_,_,_] [_,_] _ _ := ((((H.pick [2,4,5,6,7,8]).selA [2,0,1] rfl).shareB 0 rfl).add 0 rfl (fun _ _ _ h => h.2)).pick [0,3,4,5,6,7]
   refine sr mx [v1 7 (fun v0 => own (rAny 3 9) 20 [(AnyV.str (t59).Name),(AnyV.int ((t59).States.length : Int))] v0)] H (fun _ => .o (Qe Qgw z0)<|.o (Qd (u := (t59).Name) tok9 z0 rfl)<|.o (Qcr ud9 z0)<|.o (Qe Qed z3)<|.o (Qd (u := (t59).States) Qbx z0 rfl)<|.o (QE ud32 z0)<|.o (QdY ud3 z0)<|.m [] [2] rfl rfl rfl (Qb3 (R := (rAny 3 9)) (us := [(AnyV.str (t59).Name),(AnyV.int ((t59).States.length : Int))]) QeL QeG (.cons z4<|.cons z0<|.nil _) rfl (leb rfl) (leb rfl))<|.ud (f := fun v => tv v) 7 rfl [] rfl rfl (Qa z0)<|.n) fun n16 a w H => ?_
   have H := H.to [7,8,9,10,11,12,13,14] [_,_,_,_,_,_,_,_] [_,_,_] rfl rfl
   refine wp_seq_k (fun K232 k232 => ?_)
   refine sr mx [] H (fun _ => .o (Qe Qed z2)<|.o (Qd (u := (t59).States) Qbx z0 rfl)<|.o (QE ud32 z0)<|.o (Qq .k)<|.n) fun _ a w H => ?_
   have H := H.to [1,2,3,4,5,6,7,8,9,10,11] [_,_,_,_,_,_,_,_,_,_,_] [_,_,_] rfl rfl
   have ⟨e235,he235,h⟩ := bs h
   have hJp247 : ∀ (p247 : List AnyV) (v248 : Value) a w,p247 = e235 → St M w0 132 [(10,tv v248),(9,tptr (Qz.cs t59)),(55,tsl Qz (x_).Lives),(56,ti ((x_).Lives.length : Int)),(57,ti s78.1),(3,tv (n1 0)),(1,tptr (Qg.cs x_))] [glo,bld s78.2 (n1 0) v137,own (rAny 3 9) 20 p247 v248] a w → K232 a w := by
    intro p247 v248 a w he H
    subst he
    refine k232 _ _ ?_
    have ⟨t83,ht83,h⟩ := bs h
    have ⟨t84,ht84,h⟩ := bs h
    refine sr mx [v1 2 (fun v0 => bld t84 (n1 0) v0)] H (fun _ => .q 0 rfl<|.u [0,2] rfl rfl ((QhV [own (rAny 3 9) 20 p247 v248] QeY (Qbe ht83) (.cons (.of .k)<|.cons (.own z0 (.head _))<|.nil) (fun _ => QhU) (fun _ => Qmi (x := undef))).glo)<|.e [] [1] [3] rfl rfl rfl rfl (Qf Qhf (QbL ht84) (.cons (.of z7)<|.cons (.of z0)<|.nil))<|.n) fun n22 a w H => ?_
    have H := H.to [0,3,4,5,6,7,8,9] [_,_,_,_,_,_,_,_] [_,_,_] rfl rfl
    refine sr mx [] H (fun _ => .o (Qe Qcm z2)<|.o (Qd (u := (t59).Moves) Qhc z0 rfl)<|.o (QE ud79 z0)<|.o (Qq .k)<|.n) fun _ a w H => ?_
    have H := H.to [1,2,3,4,5,7,8,9,10,11] [_,_,_,_,_,_,_,_,_,_] [_,_,_] rfl rfl
    have ⟨e252,he252,h⟩ := bs h
    have hJp266 : ∀ (p266 : Str) (v267 : Value) a w,p266 = e252 → St M w0 132 [(55,tsl Qz (x_).Lives),(56,ti ((x_).Lives.length : Int)),(57,ti s78.1),(3,tv (n1 0)),(1,tptr (Qg.cs x_))] [glo,bld p266 (n1 0) v267] a w → K227 a w := by
     intro p266 v267 a w he H
     subst he
     refine k227 _ _ ?_
     refine wr mx [] H (fun _ => .o (QQ z2 .k)<|.q 0 rfl<|.n) fun _ a w H => ?_
     have H := H.to [1,2,3,4,5] [_,_,_,_,_] [_,_] rfl rfl
     exact k224 _ _ _ (sj h).symm ⟨v267,H.pick [1,2,0,3,4]⟩
    refine wp_block ?_
    refine QR _ (fun (s251 : Int × Str) a w => ∃ v259 : Value,St M w0 132 [(86,tsl Qam (t59).Moves),(87,ti ((t59).Moves.length : Int)),(88,ti s251.1),(55,tsl Qz (x_).Lives),(56,ti ((x_).Lives.length : Int)),(57,ti s78.1),(3,tv (n1 0)),(1,tptr (Qg.cs x_))] [glo,bld s251.2 (n1 0) v259] a w) _ _ he252 ⟨(n22 2),(H.pick [0,1,2,5,6,7,8,9]).selA [0,2] rfl⟩ ?_
    clear h
    intro s251 o a w K268 hI h ho k268
    obtain ⟨v259,H⟩ := hI
    refine sr mx [] H (fun _ => .o (QG z2 z1)<|.n) fun _ a w H => ?_
    have H := H.to [0,1,2,3,4,5,6,7,8] [_,_,_,_,_,_,_,_,_] [_,_] rfl rfl
    refine wp_seq_k (fun _ k270 => ?_)
    refine wi H h (fun b274 h => ?_) (fun b274 h => ?_)
    ·refine wp_skip (k270 _ _ ?_)
     refine wp_seq_k (fun _ k271 => ?_)
     refine wp_block ?_
     have ⟨t90,ht90,h⟩ := bs h
     refine sr mx [v1 2 (fun v0 => box (Qam.cs (QT.mk (0:Int) (0:Int))) v0),v1 2 (fun v0 => box (Qam.cs t90) v0)] H (fun _ => .o (Qr ud79 Qds z1 z3 ht90)<|.o (Qm Qds z0)<|.m [] [2] rfl rfl rfl (Q0 (R := Qam) (a := (QT.mk (0:Int) (0:Int))) Qds zok82)<|.e [] [2] [3] rfl rfl rfl rfl (QS (R := Qam) (a := t90) Qds z0 z1 (leb rfl))<|.n) fun _ a w H => ?_
     replace H : St _ _ _ [_,_,_,_,_,_,_,_,_] [_,_] _ _ := ((((H.pick [2,4,5,6,7,8,9,10,11]).selA [2,0,1] rfl).shareB 0 rfl).add 0 rfl (fun _ _ _ h => h.2)).pick [0,3,4,5,6,7,8,9,10]
     have ⟨t99,ht99,h⟩ := bs h
     have ⟨t100,ht100,h⟩ := bs h
     refine wr mx [v1 8 (fun v0 => bld t100 (n1 0) v0)] H (fun _ => .o (QhX 0 rfl ud82 tok3 z0 .k (by decide))<|.o (Qd (u := (t90).a0) tok3 z0 rfl)<|.o (QdY ud3 z0)<|.o (QhX 1 rfl ud82 tok3 z3 .k (by decide))<|.o (Qd (u := (t90).a1) tok3 z0 rfl)<|.o (QdY ud3 z0)<|.o (Qy (R := (rAny 3 9)) (us := [(AnyV.int (t90).a0),(AnyV.int (t90).a1)]) QeL QeG (.cons z3<|.cons z0<|.nil _) rfl (leb rfl))<|.u [0] rfl rfl ((Qf QeY (Qbe ht99) (.cons (.of .k)<|.cons (.of z0)<|.nil)).glo)<|.e [] [1] [2] rfl rfl rfl rfl (Qf Qhf (QbL ht100) (.cons (.of z15)<|.cons (.of z0)<|.nil))<|.n) fun n26 a w H => ?_
     have H := H.to [10,11,12,13,14,15,16,17] [_,_,_,_,_,_,_,_] [_,_] rfl rfl
     refine k271 _ _ ?_
     refine wr mx [] H (fun _ => .o (QQ z2 .k)<|.q 0 rfl<|.n) fun _ a w H => ?_
     have H := H.to [1,2,3,4,5,6,7,8] [_,_,_,_,_,_,_,_] [_,_] rfl rfl
     exact k268 _ _ _ (sj h).symm ⟨(n26 8),H.pick [1,2,0,3,4,5,6,7]⟩
    refine wp_exit ?_
    exact hJp266 _ v259 _ _ (ho _ (sj h).symm) (H.pick [4,5,6,7,8])
   refine wp_block ?_
   refine QR _ (fun (s234 : Int × List AnyV) a w => ∃ v241 : Value,St M w0 132 [(70,tsl rS (t59).States),(71,ti ((t59).States.length : Int)),(72,ti s234.1),(10,tv v241),(9,tptr (Qz.cs t59)),(55,tsl Qz (x_).Lives),(56,ti ((x_).Lives.length : Int)),(57,ti s78.1),(3,tv (n1 0)),(1,tptr (Qg.cs x_))] [glo,bld s78.2 (n1 0) v137,own (rAny 3 9) 20 s234.2 v241] a w) _ _ he235 ⟨(n16 7),H.pick [0,1,2,4,5,6,7,8,9,10]⟩ ?_
   clear h
   intro s234 o a w K275 hI h ho k275
   obtain ⟨v241,H⟩ := hI
   refine sr mx [] H (fun _ => .o (QG z2 z1)<|.n) fun _ a w H => ?_
   have H := H.to [0,1,2,3,4,5,6,7,8,9,10] [_,_,_,_,_,_,_,_,_,_,_] [_,_,_] rfl rfl
   refine wp_seq_k (fun _ k277 => ?_)
   refine wi H h (fun b280 h => ?_) (fun b280 h => ?_)
   ·refine wp_skip (k277 _ _ ?_)
    refine wp_seq_k (fun _ k278 => ?_)
    refine wp_block ?_
    have ⟨t74,ht74,h⟩ := bs h
    refine sr mx [] H (fun _ => .o (Qr ud32 tok9 z1 z3 ht74)<|.o (Qm tok9 z0)<|.o (Qa z0)<|.n) fun _ a w H => ?_
    have H := H.to [2,4,5,6,7,8,9,10,11,12,13] [_,_,_,_,_,_,_,_,_,_,_] [_,_,_] rfl rfl
    have ⟨u80,hu80,h⟩ := bs h
    refine wr mx [v1 4 (fun v0 => own (rAny 3 9) 20 (s234.2 ++ [(AnyV.str t74)]) v0)] H (fun _ => .q 4 rfl<|.q 1 rfl<|.o (Qcr ud9 z0)<|.o (Qy (R := (rAny 3 9)) (us := [(AnyV.str t74)]) QeL QeG (.cons z0<|.nil _) rfl (leb rfl))<|.e [] [2] [3] rfl rfl rfl rfl (Qag (R := (rAny 3 9)) QeL QeG (leb rfl) z3 z0 hu80)<|.ud (f := fun v => tv v) 4 rfl [] rfl rfl (Qa z0)<|.n) fun n20 a w H => ?_
    have H := H.to [4,5,7,8,9,10,11,12,13,14,15] [_,_,_,_,_,_,_,_,_,_,_] [_,_,_] rfl rfl
    refine k278 _ _ ?_
    refine wr mx [] H (fun _ => .o (QQ z4 .k)<|.q 0 rfl<|.n) fun _ a w H => ?_
    have H := H.to [1,2,3,4,5,6,7,8,9,10,11] [_,_,_,_,_,_,_,_,_,_,_] [_,_,_] rfl rfl
    exact k275 _ _ _ (sj h).symm ⟨(n20 4),H.pick [3,4,0,2,5,6,7,8,9,10]⟩
   refine wp_exit ?_
   exact hJp247 _ v241 _ _ (ho _ (sj h).symm) (H.pick [4,5,6,7,8,9,10])
  refine wp_exit ?_
  exact hJp195 _ v137 _ _ (ho _ (sj h).symm) (H.pick [4,5])
 refine wp_block ?_
 refine QR _ (fun (s7 : Int × Str) a w => ∃ v41 : Value,St M w0 132 [(24,tsl Qk (x_).Kinds),(25,ti ((x_).Kinds.length : Int)),(26,ti s7.1),(3,tv (n1 0)),(1,tptr (Qg.cs x_))] [glo,bld s7.2 (n1 0) v41] a w) _ _ he8 ⟨(n2 5),H.pick [0,1,2,3,4]⟩ ?_
 clear h
 intro s7 o a w K282 hI h ho k282
 obtain ⟨v41,H⟩ := hI
 refine sr mx [] H (fun _ => .o (QG z2 z1)<|.n) fun _ a w H => ?_
 have H := H.to [0,1,2,3,4,5] [_,_,_,_,_,_] [_,_] rfl rfl
 refine wp_seq_k (fun _ k284 => ?_)
 refine wi H h (fun b314 h => ?_) (fun b314 h => ?_)
 ·refine wp_skip (k284 _ _ ?_)
  refine wp_seq_k (fun K285 k285 => ?_)
  refine wp_block ?_
  have ⟨t28,ht28,h⟩ := bs h
  refine sr mx [v1 2 (fun v0 => box (Qk.cs zz1) v0),v1 2 (fun v0 => box (Qk.cs t28) v0)] H (fun _ => .o (Qr ud23 QZ z1 z3 ht28)<|.o (Qm QZ z0)<|.m [] [2] rfl rfl rfl (Q0 (R := Qk) (a := zz1) QZ Qid)<|.e [] [2] [3] rfl rfl rfl rfl (QS (R := Qk) (a := t28) QZ z0 z1 (leb rfl))<|.n) fun _ a w H => ?_
  replace H : St _ _ _ [_,_,_,_,_,_] [_,_] _ _ := ((((H.pick [2,4,5,6,7,8]).selA [2,0,1] rfl).shareB 0 rfl).add 0 rfl (fun _ _ _ h => h.2)).pick [0,3,4,5,6,7]
  have ⟨t40,ht40,h⟩ := bs h
  have ⟨t41,ht41,h⟩ := bs h
  refine sr mx [v1 11 (fun v0 => bld t41 (n1 0) v0)] H (fun _ => .o (Qe Qbo z0)<|.o (Qd (u := (t28).Name) tok9 z0 rfl)<|.o (Qcr ud9 z0)<|.o (Qe QhZ z3)<|.o (Qd (u := (t28).Lo) tok3 z0 rfl)<|.o (QdY ud3 z0)<|.o (Qe Qh0 z6)<|.o (Qd (u := (t28).Hi) tok3 z0 rfl)<|.o (QdY ud3 z0)<|.o (Qy (R := (rAny 3 9)) (us := [(AnyV.str (t28).Name),(AnyV.int (t28).Lo),(AnyV.int (t28).Hi)]) QeL QeG (.cons z6<|.cons z3<|.cons z0<|.nil _) rfl (leb rfl))<|.u [0] rfl rfl ((Qf QeY (Qbe ht40) (.cons (.of .k)<|.cons (.of z0)<|.nil)).glo)<|.e [] [1] [2] rfl rfl rfl rfl (Qf Qhf (QbL ht41) (.cons (.of z15)<|.cons (.of z0)<|.nil))<|.n) fun n6 a w H => ?_
  have H := H.to [12,13,14,15,16,17] [_,_,_,_,_,_] [_,_] rfl rfl
  refine sr mx [] H (fun _ => .o (Qe Qaf z0)<|.o (Qd (u := (t28).Fields) QaK z0 rfl)<|.o (QE ud53 z0)<|.o (Qq .k)<|.n) fun _ a w H => ?_
  have H := H.to [1,2,3,5,6,7,8,9] [_,_,_,_,_,_,_,_] [_,_] rfl rfl
  have ⟨e291,he291,h⟩ := bs h
  have hJp305 : ∀ (p305 : Str) (v306 : Value) a w,p305 = e291 → St M w0 132 [(24,tsl Qk (x_).Kinds),(25,ti ((x_).Kinds.length : Int)),(26,ti s7.1),(3,tv (n1 0)),(1,tptr (Qg.cs x_))] [glo,bld p305 (n1 0) v306] a w → K285 a w := by
   intro p305 v306 a w he H
   subst he
   refine k285 _ _ ?_
   refine wr mx [] H (fun _ => .o (QQ z2 .k)<|.q 0 rfl<|.n) fun _ a w H => ?_
   have H := H.to [1,2,3,4,5] [_,_,_,_,_] [_,_] rfl rfl
   exact k282 _ _ _ (sj h).symm ⟨v306,H.pick [1,2,0,3,4]⟩
  refine wp_block ?_
  refine QR _ (fun (s290 : Int × Str) a w => ∃ v298 : Value,St M w0 132 [(43,tsl Qb (t28).Fields),(44,ti ((t28).Fields.length : Int)),(45,ti s290.1),(24,tsl Qk (x_).Kinds),(25,ti ((x_).Kinds.length : Int)),(26,ti s7.1),(3,tv (n1 0)),(1,tptr (Qg.cs x_))] [glo,bld s290.2 (n1 0) v298] a w) _ _ he291 ⟨(n6 11),H.pick [0,1,2,3,4,5,6,7]⟩ ?_
  clear h
  intro s290 o a w K307 hI h ho k307
  obtain ⟨v298,H⟩ := hI
  refine sr mx [] H (fun _ => .o (QG z2 z1)<|.n) fun _ a w H => ?_
  have H := H.to [0,1,2,3,4,5,6,7,8] [_,_,_,_,_,_,_,_,_] [_,_] rfl rfl
  refine wp_seq_k (fun _ k309 => ?_)
  refine wi H h (fun b313 h => ?_) (fun b313 h => ?_)
  ·refine wp_skip (k309 _ _ ?_)
   refine wp_seq_k (fun _ k310 => ?_)
   refine wp_block ?_
   have ⟨t47,ht47,h⟩ := bs h
   refine sr mx [v1 2 (fun v0 => box (Qb.cs zz0) v0),v1 2 (fun v0 => box (Qb.cs t47) v0)] H (fun _ => .o (Qr ud53 QI z1 z3 ht47)<|.o (Qm QI z0)<|.m [] [2] rfl rfl rfl (Q0 (R := Qb) (a := zz0) QI Qcy)<|.e [] [2] [3] rfl rfl rfl rfl (QS (R := Qb) (a := t47) QI z0 z1 (leb rfl))<|.n) fun _ a w H => ?_
   replace H : St _ _ _ [_,_,_,_,_,_,_,_,_] [_,_] _ _ := ((((H.pick [2,4,5,6,7,8,9,10,11]).selA [2,0,1] rfl).shareB 0 rfl).add 0 rfl (fun _ _ _ h => h.2)).pick [0,3,4,5,6,7,8,9,10]
   have ⟨t50,ht50,h⟩ := bs h
   have ⟨t51,ht51,h⟩ := bs h
   refine wr mx [v1 2 (fun v0 => bld t51 (n1 0) v0)] H (fun _ => .o (Qm QI z0)<|.u [0] rfl rfl ((Qf Quf (Qn7 ht50) (.cons (.of z0)<|.nil)).glo)<|.e [] [1] [2] rfl rfl rfl rfl (Qf Qhf (QbL ht51) (.cons (.of z9)<|.cons (.of z0)<|.nil))<|.n) fun n10 a w H => ?_
   have H := H.to [4,5,6,7,8,9,10,11] [_,_,_,_,_,_,_,_] [_,_] rfl rfl
   refine k310 _ _ ?_
   refine wr mx [] H (fun _ => .o (QQ z2 .k)<|.q 0 rfl<|.n) fun _ a w H => ?_
   have H := H.to [1,2,3,4,5,6,7,8] [_,_,_,_,_,_,_,_] [_,_] rfl rfl
   exact k307 _ _ _ (sj h).symm ⟨(n10 2),H.pick [1,2,0,3,4,5,6,7]⟩
  refine wp_exit ?_
  exact hJp305 _ v298 _ _ (ho _ (sj h).symm) (H.pick [4,5,6,7,8])
 refine wp_exit ?_
 exact hJp74 _ v41 _ _ (ho _ (sj h).symm) (H.pick [4,5])

/- diorama/schema.Valid -/
noncomputable def QdP (x_ : Qh) : Option (Int) := (QaW (x_).Version (0:Int) (1048576:Int)).bind fun t6 => (opt (((((!t6) || (decide (((x_).Kinds.length : Int) > (6:Int)))) || (decide (((x_).Lives.length : Int) > (6:Int)))) || (decide (((x_).Rules.length : Int) > (16:Int)))) == false) (QcE (x_).Kinds (fun x0 => Qdl x0)) default).bind fun t29 => (opt ((((((!t6) || (decide (((x_).Kinds.length : Int) > (6:Int)))) || (decide (((x_).Lives.length : Int) > (6:Int)))) || (decide (((x_).Rules.length : Int) > (16:Int)))) || (!t29)) == false) (QcG (x_).Lives (fun x0 => Qdm x0)) default).bind fun t35 => (opt (((((((!t6) || (decide (((x_).Kinds.length : Int) > (6:Int)))) || (decide (((x_).Lives.length : Int) > (6:Int)))) || (decide (((x_).Rules.length : Int) > (16:Int)))) || (!t29)) || (!t35)) == false) (QcI (x_).Rules (fun x0 => Qdn x0)) default).bind fun t41 => (if (((((((!t6) || (decide (((x_).Kinds.length : Int) > (6:Int)))) || (decide (((x_).Lives.length : Int) > (6:Int)))) || (decide (((x_).Rules.length : Int) > (16:Int)))) || (!t29)) || (!t35)) || (!t41)) = true then (some (1:Int)) else (Qdo x_).bind fun t46 => (if (decide ((t46.length : Int) > (8192:Int))) = true then (some (4:Int)) else (some (0:Int))))
theorem Qn8 {x_ : Qh} {r : Int} (h : QdP x_ = some r) : FnOk Tryz.prog 62 [Qg.ty x_] [glo] (fun _ => []) (fun _ => ti r) := by
 unfold QdP at h
 refine fe Tryz.func62 Tryz.ntmps62 fun M0 M w0 a hpl H => ?_
 replace H : St M w0 49 [(0,Qg.ty x_)] [glo] a w0 := H
 refine sr mx [] H (fun _ => .o (QV (R := Qg) (u := x_) z0)<|.o (Qa .k)<|.n) fun _ a w H => ?_
 have H := H.to [0] [_] [_] rfl rfl
 refine wp_seq_k (fun _ k2 => ?_)
 refine wp_block ?_
 have ⟨t6,ht6,h⟩ := bs h
 have ⟨t29,ht29,h⟩ := bs h
 have ⟨t35,ht35,h⟩ := bs h
 have ⟨t41,ht41,h⟩ := bs h
 refine sr mx [] H (fun _ => .o (Qe Qkb z0)<|.o (Qd (u := (x_).Version) tok3 z0 rfl)<|.o (Qf Qim (QbD ht6) (.cons (.of z0)<|.cons (.of .k)<|.cons (.of .k)<|.nil))<|.o (Qae z0)<|.q 0 rfl<|.g rfl rfl bq0 (fun _ => Qe Q9 z5)<|.g rfl rfl bq1 (fun hc => Qd (u := (x_).Kinds) QaF (.cond z0 hc) rfl)<|.g rfl rfl bq2 (fun hc => QE ud23 (.cond z0 hc))<|.g rfl rfl bq3 (fun hc => Qa0 (.cond z0 hc) .k)<|.o (Q6 z4 (fun hp => (.cond z0 (beqF hp))))<|.q 0 rfl<|.g rfl rfl bq0 (fun _ => Qe Qbc z11)<|.g rfl rfl bq1 (fun hc => Qd (u := (x_).Lives) QeH (.cond z0 hc) rfl)<|.g rfl rfl bq2 (fun hc => QE ud24 (.cond z0 hc))<|.g rfl rfl bq3 (fun hc => Qa0 (.cond z0 hc) .k)<|.o (Q6 z4 (fun hp => (.cond z0 (beqF hp))))<|.q 0 rfl<|.g rfl rfl bq0 (fun _ => Qe QbH z17)<|.g rfl rfl bq1 (fun hc => Qd (u := (x_).Rules) Qfp (.cond z0 hc) rfl)<|.g rfl rfl bq2 (fun hc => QE ud25 (.cond z0 hc))<|.g rfl rfl bq3 (fun hc => Qa0 (.cond z0 hc) .k)<|.o (Q6 z4 (fun hp => (.cond z0 (beqF hp))))<|.q 0 rfl<|.g rfl rfl bq0 (fun _ => Qe Q9 z23)<|.g rfl rfl bq1 (fun hc => Qd (u := (x_).Kinds) QaF (.cond z0 hc) rfl)<|.g rfl rfl bq2 (fun hc => Qf call98 (Qmo (Qaj ht29 hc)) (.cons (.of (.cond z0 hc))<|.cons (.of (Fct.weak .fnE (Qb7 call99 (fun _ _ hq => Qnk hq))))<|.nil))<|.g rfl rfl bq3 (fun hc => Qae (.cond z0 hc))<|.o (Q6 z4 (fun hp => (.cond z0 (beqF hp))))<|.q 0 rfl<|.g rfl rfl bq0 (fun _ => Qe Qbc z29)<|.g rfl rfl bq1 (fun hc => Qd (u := (x_).Lives) QeH (.cond z0 hc) rfl)<|.g rfl rfl bq2 (fun hc => Qf QtQ (Qmq (Qaj ht35 hc)) (.cons (.of (.cond z0 hc))<|.cons (.of (Fct.weak .fnE (Qb7 QtR (fun _ _ hq => Qnl hq))))<|.nil))<|.g rfl rfl bq3 (fun hc => Qae (.cond z0 hc))<|.o (Q6 z4 (fun hp => (.cond z0 (beqF hp))))<|.q 0 rfl<|.g rfl rfl bq0 (fun _ => Qe QbH (.t 35 rfl))<|.g rfl rfl bq1 (fun hc => Qd (u := (x_).Rules) Qfp (.cond z0 hc) rfl)<|.g rfl rfl bq2 (fun hc => Qf QtS (Qms (Qaj ht41 hc)) (.cons (.of (.cond z0 hc))<|.cons (.of (Fct.weak .fnE (Qb7 QtT (fun _ _ hq => Qnm hq))))<|.nil))<|.g rfl rfl bq3 (fun hc => Qae (.cond z0 hc))<|.o (Q6 z4 (fun hp => (.cond z0 (beqF hp))))<|.o (Qa z0)<|.n) fun _ a w H => ?_
 have H := H.to [40,41] [_,_] [_] rfl rfl
 refine wi H h (fun b9 h => ?_) (fun b9 h => ?_)
 ·refine sr mx [] H (fun _ => .o (Qa .k)<|.n) fun _ a w H => ?_
  have H := H.to [0] [_] [_] rfl rfl
  refine wp_ret ?_
  obtain rfl := sj h
  exact rt undef [] hpl H (.tmp z0 .nil)
 have ⟨t46,ht46,h⟩ := bs h
 refine sr mx [] H (fun _ => .o (Qm Qar z1)<|.u [0] rfl rfl ((Qf QtU (Qno ht46) (.cons (.of z0)<|.nil)).glo)<|.o (op_lenS' ud9 z0)<|.o (Qa0 z0 .k)<|.o (Qa z0)<|.n) fun _ a w H => ?_
 have H := H.to [4] [_] [_] rfl rfl
 refine wi H h (fun b8 h => ?_) (fun b8 h => ?_)
 ·refine sr mx [] H (fun _ => .o (Qa .k)<|.n) fun _ a w H => ?_
  have H := H.to [0] [_] [_] rfl rfl
  refine wp_ret ?_
  obtain rfl := sj h
  exact rt undef [] hpl H (.tmp z0 .nil)
 refine wp_skip (k2 _ _ ?_)
 refine sr mx [] H (fun _ => .o (Qa .k)<|.n) fun _ a w H => ?_
 have H := H.to [0] [_] [_] rfl rfl
 refine wp_ret ?_
 obtain rfl := sj h
 exact rt undef [] hpl H (.tmp z0 .nil)

/- diorama/typing.Check$1 -/
noncomputable def Qbz (kind_ : Int) (field_ : Int) (rule_ : Int) (e_ : Int) (c0_ : (List Qs)) : Option ((List Qs)) := ((if (e_ != (0:Int)) = true then (rm (c0_.length + [(Qs.mk kind_ field_ rule_ e_)].length)).bind fun _ => (some (c0_ ++ [(Qs.mk kind_ field_ rule_ e_)])) else (some c0_))).bind fun (p4 : List Qs) => (some p4)
theorem Qfq {q4 : Value} {vh4 : Value} {kind_ : Int} {field_ : Int} {rule_ : Int} {e_ : Int} {c0_ : (List Qs)} {r : (List Qs)} (h : Qbz kind_ field_ rule_ e_ c0_ = some r) : FnOk Tryz.prog 63 [ti kind_,ti field_,ti rule_,ti e_,tv q4] [box (rVal.cs vh4) q4,own Q1 119 c0_ vh4] (fun v => [box (rVal.cs v) q4,own Q1 119 r v]) (fun _ => ttup []) := by
 unfold Qbz at h
 refine fe Tryz.func63 Tryz.ntmps63 fun M0 M w0 a hpl H => ?_
 replace H : St M w0 19 [(0,ti kind_),(1,ti field_),(2,ti rule_),(3,ti e_),(4,tv q4)] [box (rVal.cs vh4) q4,own Q1 119 c0_ vh4] a w0 := H
 refine sr mx [] H (fun _ => .q 3 rfl<|.o (Qau z0 .k)<|.n) fun _ a w H => ?_
 have H := H.to [1,2,3,4,5,6] [_,_,_,_,_,_] [_,_] rfl rfl
 have ⟨p4,hp4,h⟩ := bs h
 have hJp4 : ∀ (v6 : Value) a w,St M w0 19 [(4,tv q4)] [own Q1 119 p4 v6,box (rVal.cs v6) q4] a w → Ret Tryz.prog Tryz.f63 M0 [box (rVal.cs vh4) q4,own Q1 119 c0_ vh4] w0 (fun v => [box (rVal.cs v) q4,own Q1 119 r v]) (fun _ => ttup []) .normal a w := by
  intro v6 a w H
  obtain rfl := sj h
  exact Qoz v6 [1,0] hpl H rfl .nil rfl rfl rfl
 replace h := hp4
 clear hp4
 refine wi H h (fun b7 h => ?_) (fun b7 h => ?_)
 ·have ⟨u18,hu18,h⟩ := bs h
  refine wr mx [v1 7 (fun v0 => own Q1 119 (c0_ ++ [(Qs.mk kind_ field_ rule_ e_)]) v0),v1 7 (fun v0 => box (rVal.cs v0) q4)] H (fun _ => .u [0] rfl rfl (QhW QnZ z5)<|.q 2 rfl<|.q 4 rfl<|.q 6 rfl<|.q 8 rfl<|.p (T := Q1.ty (Qs.mk kind_ field_ rule_ e_)) rfl (QY Tryz.underlying119 pl119 zv119 zc119 (.cons (R := rI) (u := kind_) rfl z3 (leb rfl)<|.cons (R := rI) (u := field_) rfl z2 (leb rfl)<|.cons (R := rI) (u := rule_) rfl z1 (leb rfl)<|.cons (R := rI) (u := e_) rfl z0 (leb rfl)<|.nil _))<|.o (Qy (R := Q1) (us := [(Qs.mk kind_ field_ rule_ e_)]) ud68 QnV (.cons z0<|.nil _) rfl (leb rfl))<|.e [] [1] [2] rfl rfl rfl rfl (Qag (R := Q1) ud68 QnV (leb rfl) z6 z0 hu18)<|.e [2] [0] [3] rfl rfl rfl rfl (QkR (R := Q1) (e := 119) (Ts := (rVal.cs vh4)) QnZ z13 z0 (leb rfl))<|.n) fun n1 a w H => ?_
  have H := H.to [7,13] [_,_] [_,_] rfl rfl
  obtain rfl := sj h
  exact hJp4 (n1 7) _ _ (H.pick [1])
 refine wp_skip ?_
 obtain rfl := sj h
 exact hJp4 vh4 _ _ ((H.pick [5]).selA [1,0] rfl)

/- diorama/typing.Check$2 -/
noncomputable def QdH (m_ : Qo) (c0_ : Qo) : Option (Bool) := (some ((m_).Name == (c0_).Name))
theorem Qm5 {m_ : Qo} {c0_ : Qo} {r : Bool} (h : QdH m_ c0_ = some r) : FnOk Tryz.prog 65 [Qz.ty m_,tptr (Qz.cs c0_)] [] (fun _ => []) (fun _ => tb r) := by
 unfold QdH at h
 refine fe Tryz.func65 Tryz.ntmps65 fun M0 M w0 a hpl H => ?_
 replace H : St M w0 9 [(0,Qz.ty m_),(1,tptr (Qz.cs c0_))] [] a w0 := H
 refine sr mx [] H (fun _ => .o (QV (R := Qz) (u := m_) z0)<|.o (Qa .k)<|.n) fun _ a w H => ?_
 have H := H.to [0,3] [_,_] [] rfl rfl
 refine sr mx [] H (fun _ => .o (Qe Qgw z0)<|.o (Qd (u := (m_).Name) tok9 z0 rfl)<|.o (Qe Qgw z3)<|.o (Qd (u := (c0_).Name) tok9 z0 rfl)<|.o (Qa6 z2 z0)<|.o (Qa z0)<|.n) fun _ a w H => ?_
 have H := H.to [5] [_] [] rfl rfl
 refine wp_ret ?_
 obtain rfl := sj h
 exact rt undef [] hpl H (.tmp z0 .nil)

/- diorama/typing.first -/
noncomputable def Qax (l_ : (List Qv)) : Option (Int) := (QF (fun (s4 : Int) => ((if (decide (s4 < (l_.length : Int))) = true then (idx l_ s4).bind fun t9 => (if (t9).is = true then (some (.inr (.inr (t9).code))) else (some (.inl (IntKind.i64.wrap (s4 + (1:Int)))))) else (some (.inr (.inl ())))) : Option ((Int) ⊕ ((Unit) ⊕ (Int))))) (0:Int)).bind fun (e5 : (Unit) ⊕ (Int)) => (match e5 with | .inl _ => (some (0:Int)) | .inr p25 => (some p25))
theorem Qbh {l_ : (List Qv)} {r : Int} (h : Qax l_ = some r) : FnOk Tryz.prog 66 [tsl QX l_] [] (fun _ => []) (fun _ => ti r) := by
 unfold Qax at h
 refine fe Tryz.func66 Tryz.ntmps66 fun M0 M w0 a hpl H => ?_
 replace H : St M w0 16 [(0,tsl QX l_)] [] a w0 := H
 refine sr mx [] H (fun _ => .o (Qa .k)<|.n) fun _ a w H => ?_
 have H := H.to [1] [_] [] rfl rfl
 refine wp_seq_k (fun K2 k2 => ?_)
 refine sr mx [] H (fun _ => .q 0 rfl<|.o (QE Qhe z0)<|.o (Qq .k)<|.n) fun _ a w H => ?_
 have H := H.to [0,1,2] [_,_,_] [] rfl rfl
 have ⟨e5,he5,h⟩ := bs h
 have hJp24 : ∀ (p24 : Unit) a w,(.inl p24) = e5 → St M w0 16 [] [] a w → K2 a w := by
  intro p24 a w he H
  subst he
  simp only at h
  refine k2 _ _ ?_
  refine sr mx [] H (fun _ => .o (Qa .k)<|.n) fun _ a w H => ?_
  have H := H.to [0] [_] [] rfl rfl
  refine wp_ret ?_
  obtain rfl := sj h
  exact rt undef [] hpl H (.tmp z0 .nil)
 have hJp25 : ∀ (p25 : Int) a w,(.inr p25) = e5 → St M w0 16 [(2,ti p25)] [] a w → Ret Tryz.prog Tryz.f66 M0 [] w0 (fun _ => []) (fun _ => ti r) .ret a w := by
  intro p25 a w he H
  subst he
  simp only at h
  obtain rfl := sj h
  exact rt undef [] hpl H (.tmp z0 .nil)
 refine wp_block ?_
 refine QR _ (fun (s4 : Int) a w => St M w0 16 [(5,tsl QX l_),(6,ti (l_.length : Int)),(7,ti s4)] [] a w) _ _ he5 (H.pick [0,1,2]) ?_
 clear h
 intro s4 o a w K27 hI h ho k27
 have H := hI
 clear hI
 refine sr mx [] H (fun _ => .o (QG z2 z1)<|.n) fun _ a w H => ?_
 have H := H.to [0,1,2,3] [_,_,_,_] [] rfl rfl
 refine wp_seq_k (fun _ k29 => ?_)
 refine wi H h (fun b36 h => ?_) (fun b36 h => ?_)
 ·refine wp_skip (k29 _ _ ?_)
  refine wp_seq_k (fun _ k30 => ?_)
  refine wp_block ?_
  have ⟨t9,ht9,h⟩ := bs h
  refine sr mx [v1 2 (fun v0 => box (QX.cs (Qv.mk false (0:Int))) v0),v1 2 (fun v0 => box (QX.cs t9) v0)] H (fun _ => .o (Qr Qhe Qen z1 z3 ht9)<|.o (Qm Qen z0)<|.m [] [0] rfl rfl rfl (Q0 (R := QX) (a := (Qv.mk false (0:Int))) Qen zok125)<|.e [] [0] [1] rfl rfl rfl rfl (QS (R := QX) (a := t9) Qen z0 z1 (leb rfl))<|.n) fun _ a w H => ?_
  replace H : St _ _ _ [_,_,_,_] [] _ _ := (((H.pick [2,4,5,6]).shareB 0 rfl).add 0 rfl (fun _ _ _ h => h.2)).pick [0,3,4,5]
  refine sr mx [] H (fun _ => .o (Qe Qs4 z0)<|.o (Qd (u := (t9).is) tok4 z0 rfl)<|.n) fun _ a w H => ?_
  have H := H.to [1,2,3,4,5] [_,_,_,_,_] [] rfl rfl
  refine wi H h (fun b35 h => ?_) (fun b35 h => ?_)
  ·refine sr mx [] H (fun _ => .o (Qe Qs5 z1)<|.o (Qd (u := (t9).code) QmT z0 rfl)<|.o (Qa z0)<|.n) fun _ a w H => ?_
   have H := H.to [2] [_] [] rfl rfl
   refine wp_ret ?_
   exact hJp25 _ _ _ (ho _ (sj h).symm) (H.pick [0])
  refine wp_skip (k30 _ _ ?_)
  refine wr mx [] H (fun _ => .o (QQ z4 .k)<|.q 0 rfl<|.n) fun _ a w H => ?_
  have H := H.to [1,4,5] [_,_,_] [] rfl rfl
  exact k27 _ _ _ (sj h).symm (H.pick [1,2,0])
 refine wp_exit ?_
 exact hJp24 _ _ _ (ho _ (sj h).symm) (H.pick [])

/- diorama/typing.Kind$1 -/
noncomputable def Qeg (k_ : Qj) (c0_ : Str) : Option (Bool) := (some ((k_).Name == c0_))
theorem Qnp {k_ : Qj} {c0_ : Str} {r : Bool} (h : Qeg k_ c0_ = some r) : FnOk Tryz.prog 74 [Qk.ty k_,tptr (rS.cs c0_)] [] (fun _ => []) (fun _ => tb r) := by
 unfold Qeg at h
 refine fe Tryz.func74 Tryz.ntmps74 fun M0 M w0 a hpl H => ?_
 replace H : St M w0 8 [(0,Qk.ty k_),(1,tptr (rS.cs c0_))] [] a w0 := H
 refine sr mx [] H (fun _ => .o (QV (R := Qk) (u := k_) z0)<|.o (Qa .k)<|.n) fun _ a w H => ?_
 have H := H.to [0,3] [_,_] [] rfl rfl
 refine sr mx [] H (fun _ => .o (Qe Qbo z0)<|.o (Qd (u := (k_).Name) tok9 z0 rfl)<|.o (Qm tok9 z3)<|.o (Qa6 z1 z0)<|.o (Qa z0)<|.n) fun _ a w H => ?_
 have H := H.to [4] [_] [] rfl rfl
 refine wp_ret ?_
 obtain rfl := sj h
 exact rt undef [] hpl H (.tmp z0 .nil)

/- diorama/typing.Kind -/
noncomputable def QbF (x_ : Qh) (name_ : Str) : Option (Int) := (Qa4 (x_).Kinds (fun x0 => Qeg x0 name_)).bind fun t8 => (some t8)
theorem Qeh {x_ : Qh} {name_ : Str} {r : Int} (h : QbF x_ name_ = some r) : FnOk Tryz.prog 38 [Qg.ty x_,tv (.string (sB name_))] [] (fun _ => []) (fun _ => ti r) := by
 unfold QbF at h
 refine fe Tryz.func38 Tryz.ntmps38 fun M0 M w0 a hpl H => ?_
 replace H : St M w0 9 [(0,Qg.ty x_),(1,tv (.string (sB name_)))] [] a w0 := H
 refine sr mx [] H (fun _ => .o (QV (R := Qg) (u := x_) z0)<|.o (QV (R := rS) (u := name_) z2)<|.o (Qa .k)<|.n) fun _ a w H => ?_
 have H := H.to [0,1] [_,_] [] rfl rfl
 have ⟨t8,ht8,h⟩ := bs h
 refine sr mx [] H (fun _ => .o (Qe Q9 z0)<|.o (Qd (u := (x_).Kinds) QaF z0 rfl)<|.o (QdX (.cons z3<|.nil))<|.o (Qf Qr0 (QgO ht8) (.cons (.of z1)<|.cons (.of (Fct.weak z0 (Qb7 call74 (fun _ _ hq => Qnp hq))))<|.nil))<|.o (Qa z0)<|.n) fun _ a w H => ?_
 have H := H.to [4] [_] [] rfl rfl
 refine wp_ret ?_
 obtain rfl := sj h
 exact rt undef [] hpl H (.tmp z0 .nil)

/- diorama/typing.kind -/
noncomputable def Qes (x_ : Qh) (i_ : Int) : Option (Int) := (idx (x_).Kinds i_).bind fun t9 => (QbF x_ (t9).Name).bind fun t14 => (opt ((((t9).Fields.length : Int) == (0:Int)) == false) (idx (t9).Fields (0:Int)) default).bind fun t25 => (Qax [(Qv.mk (decide (t14 < i_)) (7:Int)),(Qv.mk ((((t9).Fields.length : Int) == (0:Int)) || ((t25).Kind != (0:Int))) (11:Int))]).bind fun t32 => (some t32)
theorem QoI {x_ : Qh} {i_ : Int} {r : Int} (h : Qes x_ i_ = some r) : FnOk Tryz.prog 67 [Qg.ty x_,ti i_] [] (fun _ => []) (fun _ => ti r) := by
 unfold Qes at h
 refine fe Tryz.func67 Tryz.ntmps67 fun M0 M w0 a hpl H => ?_
 replace H : St M w0 33 [(0,Qg.ty x_),(1,ti i_)] [] a w0 := H
 refine sr mx [] H (fun _ => .o (QV (R := Qg) (u := x_) z0)<|.o (Qa .k)<|.n) fun _ a w H => ?_
 have H := H.to [0,3] [_,_] [] rfl rfl
 have ⟨t9,ht9,h⟩ := bs h
 refine sr mx [v1 5 (fun v0 => box (Qk.cs zz1) v0),v1 5 (fun v0 => box (Qk.cs t9) v0)] H (fun _ => .o (Qe Q9 z0)<|.o (Qd (u := (x_).Kinds) QaF z0 rfl)<|.q 3 rfl<|.o (Qr ud23 QZ z1 z0 ht9)<|.o (Qm QZ z0)<|.m [] [0] rfl rfl rfl (Q0 (R := Qk) (a := zz1) QZ Qid)<|.e [] [0] [1] rfl rfl rfl rfl (QS (R := Qk) (a := t9) QZ z0 z1 (leb rfl))<|.n) fun _ a w H => ?_
 replace H : St _ _ _ [_,_,_] [] _ _ := (((H.pick [5,6,7]).shareB 0 rfl).add 0 rfl (fun _ _ _ h => h.2)).pick [0,3,4]
 have ⟨t14,ht14,h⟩ := bs h
 have ⟨t25,ht25,h⟩ := bs h
 have ⟨t32,ht32,h⟩ := bs h
 refine sr mx [] H (fun _ => .o (Qm Qar z1)<|.o (Qe Qbo z1)<|.o (Qd (u := (t9).Name) tok9 z0 rfl)<|.o (Qf Qla (Qeh ht14) (.cons (.of z2)<|.cons (.of z0)<|.nil))<|.q 6 rfl<|.o (QG z1 z0)<|.p (T := QX.ty (Qv.mk (decide (t14 < i_)) (7:Int))) rfl (QY QeK QeJ QeI Qd7 (.cons (R := Qa7) (u := (decide (t14 < i_))) rfl z0 (leb rfl)<|.cons (R := rI) (u := (7:Int)) rfl .k (leb rfl)<|.nil _))<|.o (Qe Qaf z7)<|.o (Qd (u := (t9).Fields) QaK z0 rfl)<|.o (QE ud53 z0)<|.o (QM z0 .k)<|.q 0 rfl<|.g rfl rfl bq0 (fun _ => Qe Qaf z12)<|.g rfl rfl bq1 (fun hc => Qd (u := (t9).Fields) QaK (.cond z0 hc) rfl)<|.g rfl rfl bq2 (fun hc => Qr ud53 QI (.cond z0 hc) .k (Qaj ht25 hc))<|.g rfl rfl bq3 (fun hc => Qe Qao (.cond z0 hc))<|.g rfl rfl bq4 (fun hc => Qd (u := (t25).Kind) tok3 (.cond z0 hc) rfl)<|.g rfl rfl bq5 (fun hc => Qau (.cond z0 hc) .k)<|.o (Q6 z6 (fun hp => (.cond z0 (beqF hp))))<|.p (T := QX.ty (Qv.mk ((((t9).Fields.length : Int) == (0:Int)) || ((t25).Kind != (0:Int))) (11:Int))) rfl (QY QeK QeJ QeI Qd7 (.cons (R := Qa7) (u := ((((t9).Fields.length : Int) == (0:Int)) || ((t25).Kind != (0:Int)))) rfl z0 (leb rfl)<|.cons (R := rI) (u := (11:Int)) rfl .k (leb rfl)<|.nil _))<|.o (Qy (R := QX) (us := [(Qv.mk (decide (t14 < i_)) (7:Int)),(Qv.mk ((((t9).Fields.length : Int) == (0:Int)) || ((t25).Kind != (0:Int))) (11:Int))]) Qhe Qen (.cons z13<|.cons z0<|.nil _) rfl (leb rfl))<|.o (Qf QgN (Qbh ht32) (.cons (.of z0)<|.nil))<|.o (Qa z0)<|.n) fun _ a w H => ?_
 have H := H.to [22] [_] [] rfl rfl
 refine wp_ret ?_
 obtain rfl := sj h
 exact rt undef [] hpl H (.tmp z0 .nil)

/- diorama/typing.Field$1 -/
noncomputable def QdI (f_ : Qc) (c0_ : Str) : Option (Bool) := (some ((f_).Name == c0_))
theorem Qm6 {f_ : Qc} {c0_ : Str} {r : Bool} (h : QdI f_ c0_ = some r) : FnOk Tryz.prog 107 [Qb.ty f_,tptr (rS.cs c0_)] [] (fun _ => []) (fun _ => tb r) := by
 unfold QdI at h
 refine fe Tryz.func107 Tryz.ntmps107 fun M0 M w0 a hpl H => ?_
 replace H : St M w0 8 [(0,Qb.ty f_),(1,tptr (rS.cs c0_))] [] a w0 := H
 refine sr mx [] H (fun _ => .o (QV (R := Qb) (u := f_) z0)<|.o (Qa .k)<|.n) fun _ a w H => ?_
 have H := H.to [0,3] [_,_] [] rfl rfl
 refine sr mx [] H (fun _ => .o (Qe Qbd z0)<|.o (Qd (u := (f_).Name) tok9 z0 rfl)<|.o (Qm tok9 z3)<|.o (Qa6 z1 z0)<|.o (Qa z0)<|.n) fun _ a w H => ?_
 have H := H.to [4] [_] [] rfl rfl
 refine wp_ret ?_
 obtain rfl := sj h
 exact rt undef [] hpl H (.tmp z0 .nil)

/- diorama/typing.Field -/
noncomputable def Qbt (k_ : Qj) (name_ : Str) : Option (Int) := (QaZ (k_).Fields (fun x0 => QdI x0 name_)).bind fun t8 => (some t8)
theorem Qe9 {k_ : Qj} {name_ : Str} {r : Int} (h : Qbt k_ name_ = some r) : FnOk Tryz.prog 68 [Qk.ty k_,tv (.string (sB name_))] [] (fun _ => []) (fun _ => ti r) := by
 unfold Qbt at h
 refine fe Tryz.func68 Tryz.ntmps68 fun M0 M w0 a hpl H => ?_
 replace H : St M w0 9 [(0,Qk.ty k_),(1,tv (.string (sB name_)))] [] a w0 := H
 refine sr mx [] H (fun _ => .o (QV (R := Qk) (u := k_) z0)<|.o (QV (R := rS) (u := name_) z2)<|.o (Qa .k)<|.n) fun _ a w H => ?_
 have H := H.to [0,1] [_,_] [] rfl rfl
 have ⟨t8,ht8,h⟩ := bs h
 refine sr mx [] H (fun _ => .o (Qe Qaf z0)<|.o (Qd (u := (k_).Fields) QaK z0 rfl)<|.o (QdX (.cons z3<|.nil))<|.o (Qf QqO (QgG ht8) (.cons (.of z1)<|.cons (.of (Fct.weak z0 (Qb7 QtW (fun _ _ hq => Qm6 hq))))<|.nil))<|.o (Qa z0)<|.n) fun _ a w H => ?_
 have H := H.to [4] [_] [] rfl rfl
 refine wp_ret ?_
 obtain rfl := sj h
 exact rt undef [] hpl H (.tmp z0 .nil)

/- diorama/typing.rule$1 -/
noncomputable def Qei (s_ : Qn) (c0_ : Qn) : Option (Bool) := (some ((s_).Name == (c0_).Name))
theorem Qnq {s_ : Qn} {c0_ : Qn} {r : Bool} (h : Qei s_ c0_ = some r) : FnOk Tryz.prog 109 [Qt.ty s_,tptr (Qt.cs c0_)] [] (fun _ => []) (fun _ => tb r) := by
 unfold Qei at h
 refine fe Tryz.func109 Tryz.ntmps109 fun M0 M w0 a hpl H => ?_
 replace H : St M w0 9 [(0,Qt.ty s_),(1,tptr (Qt.cs c0_))] [] a w0 := H
 refine sr mx [] H (fun _ => .o (QV (R := Qt) (u := s_) z0)<|.o (Qa .k)<|.n) fun _ a w H => ?_
 have H := H.to [0,3] [_,_] [] rfl rfl
 refine sr mx [] H (fun _ => .o (Qe Qh1 z0)<|.o (Qd (u := (s_).Name) tok9 z0 rfl)<|.o (Qe Qh1 z3)<|.o (Qd (u := (c0_).Name) tok9 z0 rfl)<|.o (Qa6 z2 z0)<|.o (Qa z0)<|.n) fun _ a w H => ?_
 have H := H.to [5] [_] [] rfl rfl
 refine wp_ret ?_
 obtain rfl := sj h
 exact rt undef [] hpl H (.tmp z0 .nil)

end Go.Proofs.YtcdccjagknlmpaaGreatDoor
