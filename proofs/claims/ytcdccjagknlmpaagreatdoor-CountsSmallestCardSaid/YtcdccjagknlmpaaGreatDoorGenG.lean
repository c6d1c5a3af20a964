/- Go functions as Lean functions, and the proofs that they compute them, written by a program. No condition. -/
import Derived.Test.YtcdccjagknlmpaaGreatDoorGenF
namespace Go.Proofs.YtcdccjagknlmpaaGreatDoor
open Go.Sim
set_option maxRecDepth 100000
set_option maxHeartbeats 4000000

/- diorama/dioramalaw13.example -/
noncomputable def QcA (least_ : Int) : Option (Qg) := (some (Qg.mk (0:Int) [(Qi.mk ([97] : Str) (1:Int) (2:Int) [(Qc.mk ([105,100] : Str) ([] : Str) ([] : Str) (0:Int) (0:Int) (0:Int) ([] : (List Str)) ([] : (List Int)))]),(Qi.mk ([98] : Str) least_ (9:Int) [(Qc.mk ([105,100] : Str) ([] : Str) ([] : Str) (0:Int) (0:Int) (0:Int) ([] : (List Str)) ([] : (List Int))),(Qc.mk ([111,102] : Str) ([97] : Str) ([] : Str) (1:Int) (0:Int) (4:Int) ([] : (List Str)) ([] : (List Int)))])] ([] : (List Qu)) ([] : (List Qo))))
theorem Qff {least_ : Int} {r : Qg} (h : QcA least_ = some r) : FnOk Tryz.prog 26 [ti least_] [] (fun _ => []) (fun _ => Qm.ty r) := by
 unfold QcA at h
 refine fe Tryz.func26 Tryz.ntmps26 fun M0 M w0 a hpl H => ?_
 replace H : St M w0 17 [(0,ti least_)] [] a w0 := H
 refine sr mx [v1 0 (fun v0 => box (Qm.cs zz4) v0)] H (fun _ => .m [] [0] rfl rfl rfl (Q1 (R := Qm) (a := zz4) QaR Qpr)<|.n) fun n0 a w H => ?_
 have H := H.to [0,1] [_,_] [_] rfl rfl
 refine sr mx [v1 3 (fun v0 => box (Qk.cs zz1) v0),v1 3 (fun v0 => box (Qk.cs (Qi.mk ([97] : Str) (1:Int) (2:Int) [(Qc.mk ([105,100] : Str) ([] : Str) ([] : Str) (0:Int) (0:Int) (0:Int) ([] : (List Str)) ([] : (List Int)))])) v0)] H (fun _ => .p (T := Qd.ty (Qc.mk ([105,100] : Str) ([] : Str) ([] : Str) (0:Int) (0:Int) (0:Int) ([] : (List Str)) ([] : (List Int)))) rfl (QX ud61 pl61 zv61 zc61 (.cons (R := rS) (u := ([105,100] : Str)) rfl .k (leb rfl)<|.nil _))<|.o (QE (R := Qd) (us := [(Qc.mk ([105,100] : Str) ([] : Str) ([] : Str) (0:Int) (0:Int) (0:Int) ([] : (List Str)) ([] : (List Int)))]) ud53 QS (.cons z0<|.nil _) rfl (leb rfl))<|.p (T := Qk.ty (Qi.mk ([97] : Str) (1:Int) (2:Int) [(Qc.mk ([105,100] : Str) ([] : Str) ([] : Str) (0:Int) (0:Int) (0:Int) ([] : (List Str)) ([] : (List Int)))])) rfl (QX Tryz.underlying55 pl55 zv55 zc55 (.cons (R := rS) (u := ([97] : Str)) rfl .k (leb rfl)<|.cons (R := rI) (u := (1:Int)) rfl .k (leb rfl)<|.cons (R := rI) (u := (2:Int)) rfl .k (leb rfl)<|.cons (R := (rSl Qd)) (u := [(Qc.mk ([105,100] : Str) ([] : Str) ([] : Str) (0:Int) (0:Int) (0:Int) ([] : (List Str)) ([] : (List Int)))]) rfl z0 (leb rfl)<|.nil _))<|.m [] [1] rfl rfl rfl (Q1 (R := Qk) (a := zz1) Q7 QiY)<|.e [] [1] [2] rfl rfl rfl rfl (QR (R := Qk) (a := (Qi.mk ([97] : Str) (1:Int) (2:Int) [(Qc.mk ([105,100] : Str) ([] : Str) ([] : Str) (0:Int) (0:Int) (0:Int) ([] : (List Str)) ([] : (List Int)))])) Q7 z0 z1 (leb rfl))<|.n) fun _ a w H => ?_
 replace H : St _ _ _ [_,_,_] [_] _ _ := ((((H.pick [3,4,5]).selA [1,0] rfl).shareB 0 rfl).add 0 rfl (fun _ _ _ h => h.2)).pick [0,3,4]
 refine sr mx [v1 5 (fun v0 => box (Qk.cs zz1) v0),v1 5 (fun v0 => box (Qk.cs (Qi.mk ([98] : Str) least_ (9:Int) [(Qc.mk ([105,100] : Str) ([] : Str) ([] : Str) (0:Int) (0:Int) (0:Int) ([] : (List Str)) ([] : (List Int))),(Qc.mk ([111,102] : Str) ([97] : Str) ([] : Str) (1:Int) (0:Int) (4:Int) ([] : (List Str)) ([] : (List Int)))])) v0)] H (fun _ => .q 2 rfl<|.p (T := Qd.ty (Qc.mk ([105,100] : Str) ([] : Str) ([] : Str) (0:Int) (0:Int) (0:Int) ([] : (List Str)) ([] : (List Int)))) rfl (QX ud61 pl61 zv61 zc61 (.cons (R := rS) (u := ([105,100] : Str)) rfl .k (leb rfl)<|.nil _))<|.p (T := Qd.ty (Qc.mk ([111,102] : Str) ([97] : Str) ([] : Str) (1:Int) (0:Int) (4:Int) ([] : (List Str)) ([] : (List Int)))) rfl (QX ud61 pl61 zv61 zc61 (.cons (R := rS) (u := ([111,102] : Str)) rfl .k (leb rfl)<|.cons (R := rI) (u := (1:Int)) rfl .k (leb rfl)<|.cons (R := rS) (u := ([97] : Str)) rfl .k (leb rfl)<|.cons (R := rI) (u := (4:Int)) rfl .k (leb rfl)<|.nil _))<|.o (QE (R := Qd) (us := [(Qc.mk ([105,100] : Str) ([] : Str) ([] : Str) (0:Int) (0:Int) (0:Int) ([] : (List Str)) ([] : (List Int))),(Qc.mk ([111,102] : Str) ([97] : Str) ([] : Str) (1:Int) (0:Int) (4:Int) ([] : (List Str)) ([] : (List Int)))]) ud53 QS (.cons z1<|.cons z0<|.nil _) rfl (leb rfl))<|.p (T := Qk.ty (Qi.mk ([98] : Str) least_ (9:Int) [(Qc.mk ([105,100] : Str) ([] : Str) ([] : Str) (0:Int) (0:Int) (0:Int) ([] : (List Str)) ([] : (List Int))),(Qc.mk ([111,102] : Str) ([97] : Str) ([] : Str) (1:Int) (0:Int) (4:Int) ([] : (List Str)) ([] : (List Int)))])) rfl (QX Tryz.underlying55 pl55 zv55 zc55 (.cons (R := rS) (u := ([98] : Str)) rfl .k (leb rfl)<|.cons (R := rI) (u := least_) rfl z3 (leb rfl)<|.cons (R := rI) (u := (9:Int)) rfl .k (leb rfl)<|.cons (R := (rSl Qd)) (u := [(Qc.mk ([105,100] : Str) ([] : Str) ([] : Str) (0:Int) (0:Int) (0:Int) ([] : (List Str)) ([] : (List Int))),(Qc.mk ([111,102] : Str) ([97] : Str) ([] : Str) (1:Int) (0:Int) (4:Int) ([] : (List Str)) ([] : (List Int)))]) rfl z0 (leb rfl)<|.nil _))<|.m [] [1] rfl rfl rfl (Q1 (R := Qk) (a := zz1) Q7 QiY)<|.e [] [1] [2] rfl rfl rfl rfl (QR (R := Qk) (a := (Qi.mk ([98] : Str) least_ (9:Int) [(Qc.mk ([105,100] : Str) ([] : Str) ([] : Str) (0:Int) (0:Int) (0:Int) ([] : (List Str)) ([] : (List Int))),(Qc.mk ([111,102] : Str) ([97] : Str) ([] : Str) (1:Int) (0:Int) (4:Int) ([] : (List Str)) ([] : (List Int)))])) Q7 z0 z1 (leb rfl))<|.n) fun _ a w H => ?_
 replace H : St _ _ _ [_,_,_] [_] _ _ := ((((H.pick [5,6,7]).selA [1,0] rfl).shareB 0 rfl).add 0 rfl (fun _ _ _ h => h.2)).pick [0,3,4]
 refine sr mx [v0 (box (Qm.cs (Qg.mk (0:Int) [(Qi.mk ([97] : Str) (1:Int) (2:Int) [(Qc.mk ([105,100] : Str) ([] : Str) ([] : Str) (0:Int) (0:Int) (0:Int) ([] : (List Str)) ([] : (List Int)))]),(Qi.mk ([98] : Str) least_ (9:Int) [(Qc.mk ([105,100] : Str) ([] : Str) ([] : Str) (0:Int) (0:Int) (0:Int) ([] : (List Str)) ([] : (List Int))),(Qc.mk ([111,102] : Str) ([97] : Str) ([] : Str) (1:Int) (0:Int) (4:Int) ([] : (List Str)) ([] : (List Int)))])] ([] : (List Qu)) ([] : (List Qo)))) (n0 0))] H (fun _ => .o (Qr Q7 z1)<|.o (Qr Q7 z1)<|.o (QE (R := Qk) (us := [(Qi.mk ([97] : Str) (1:Int) (2:Int) [(Qc.mk ([105,100] : Str) ([] : Str) ([] : Str) (0:Int) (0:Int) (0:Int) ([] : (List Str)) ([] : (List Int)))]),(Qi.mk ([98] : Str) least_ (9:Int) [(Qc.mk ([105,100] : Str) ([] : Str) ([] : Str) (0:Int) (0:Int) (0:Int) ([] : (List Str)) ([] : (List Int))),(Qc.mk ([111,102] : Str) ([97] : Str) ([] : Str) (1:Int) (0:Int) (4:Int) ([] : (List Str)) ([] : (List Int)))])]) ud23 Q7 (.cons z1<|.cons z0<|.nil _) rfl (leb rfl))<|.p (T := Qm.ty (Qg.mk (0:Int) [(Qi.mk ([97] : Str) (1:Int) (2:Int) [(Qc.mk ([105,100] : Str) ([] : Str) ([] : Str) (0:Int) (0:Int) (0:Int) ([] : (List Str)) ([] : (List Int)))]),(Qi.mk ([98] : Str) least_ (9:Int) [(Qc.mk ([105,100] : Str) ([] : Str) ([] : Str) (0:Int) (0:Int) (0:Int) ([] : (List Str)) ([] : (List Int))),(Qc.mk ([111,102] : Str) ([97] : Str) ([] : Str) (1:Int) (0:Int) (4:Int) ([] : (List Str)) ([] : (List Int)))])] ([] : (List Qu)) ([] : (List Qo)))) rfl (QX Tryz.underlying27 pl27 zv27 zc27 (.cons (R := (rSl Qk)) (u := [(Qi.mk ([97] : Str) (1:Int) (2:Int) [(Qc.mk ([105,100] : Str) ([] : Str) ([] : Str) (0:Int) (0:Int) (0:Int) ([] : (List Str)) ([] : (List Int)))]),(Qi.mk ([98] : Str) least_ (9:Int) [(Qc.mk ([105,100] : Str) ([] : Str) ([] : Str) (0:Int) (0:Int) (0:Int) ([] : (List Str)) ([] : (List Int))),(Qc.mk ([111,102] : Str) ([97] : Str) ([] : Str) (1:Int) (0:Int) (4:Int) ([] : (List Str)) ([] : (List Int)))])]) rfl z0 (leb rfl)<|.nil _))<|.e [] [0] [1] rfl rfl rfl rfl (QR (R := Qm) (a := (Qg.mk (0:Int) [(Qi.mk ([97] : Str) (1:Int) (2:Int) [(Qc.mk ([105,100] : Str) ([] : Str) ([] : Str) (0:Int) (0:Int) (0:Int) ([] : (List Str)) ([] : (List Int)))]),(Qi.mk ([98] : Str) least_ (9:Int) [(Qc.mk ([105,100] : Str) ([] : Str) ([] : Str) (0:Int) (0:Int) (0:Int) ([] : (List Str)) ([] : (List Int))),(Qc.mk ([111,102] : Str) ([97] : Str) ([] : Str) (1:Int) (0:Int) (4:Int) ([] : (List Str)) ([] : (List Int)))])] ([] : (List Qu)) ([] : (List Qo)))) QaR z6 z0 (leb rfl))<|.n) fun _ a w H => ?_
 have H := H.to [6] [_] [_] rfl rfl
 refine wp_ret ?_
 obtain rfl := sj h
 exact rt undef [] hpl H (.cell (R := Qm) (u := (Qg.mk (0:Int) [(Qi.mk ([97] : Str) (1:Int) (2:Int) [(Qc.mk ([105,100] : Str) ([] : Str) ([] : Str) (0:Int) (0:Int) (0:Int) ([] : (List Str)) ([] : (List Int)))]),(Qi.mk ([98] : Str) least_ (9:Int) [(Qc.mk ([105,100] : Str) ([] : Str) ([] : Str) (0:Int) (0:Int) (0:Int) ([] : (List Str)) ([] : (List Int))),(Qc.mk ([111,102] : Str) ([97] : Str) ([] : Str) (1:Int) (0:Int) (4:Int) ([] : (List Str)) ([] : (List Int)))])] ([] : (List Qu)) ([] : (List Qo)))) QaR z0 0 rfl rfl .nil)

/- diorama/dioramaref01.SameInts -/
noncomputable def QcM (a_ : (List Int)) (b_ : (List Int)) : Option (Bool) := (if ((a_.length : Int) != (b_.length : Int)) = true then (some false) else (QI (fun (s7 : Int) => ((if (decide (s7 < (a_.length : Int))) = true then (idx a_ s7).bind fun t19 => (idx b_ s7).bind fun t23 => (if (t19 != t23) = true then (some (.inr (.inr false))) else (some (.inl (IntKind.i64.wrap (s7 + (1:Int)))))) else (some (.inr (.inl ())))) : Option ((Int) ⊕ ((Unit) ⊕ (Bool))))) (0:Int)).bind fun (e8 : (Unit) ⊕ (Bool)) => (match e8 with | .inl _ => (some true) | .inr p24 => (some p24)))
theorem Qgv {a_ : (List Int)} {b_ : (List Int)} {r : Bool} (h : QcM a_ b_ = some r) : FnOk Tryz.prog 25 [tsl rI a_,tsl rI b_] [] (fun _ => []) (fun _ => tb r) := by
 unfold QcM at h
 refine fe Tryz.func25 Tryz.ntmps25 fun M0 M w0 a hpl H => ?_
 replace H : St M w0 26 [(0,tsl rI a_),(1,tsl rI b_)] [] a w0 := H
 refine sr mx [] H (fun _ => .o (Qa .k)<|.n) fun _ a w H => ?_
 have H := H.to [1,2] [_,_] [] rfl rfl
 refine wp_seq_k (fun _ k2 => ?_)
 refine sr mx [] H (fun _ => .q 0 rfl<|.o (QN ud22 z0)<|.q 3 rfl<|.o (QN ud22 z0)<|.o (Qam z2 z0)<|.n) fun _ a w H => ?_
 have H := H.to [4,5,6] [_,_,_] [] rfl rfl
 refine wi H h (fun b34 h => ?_) (fun b34 h => ?_)
 ·refine sr mx [] H (fun _ => .o (Qa .k)<|.n) fun _ a w H => ?_
  have H := H.to [0] [_] [] rfl rfl
  refine wp_ret ?_
  obtain rfl := sj h
  exact rt undef [] hpl H (.tmp z0 .nil)
 refine wp_skip (k2 _ _ ?_)
 refine wp_seq_k (fun K5 k5 => ?_)
 refine sr mx [] H (fun _ => .o (Qa .k)<|.n) fun _ a w H => ?_
 have H := H.to [0,2,3] [_,_,_] [] rfl rfl
 have ⟨e8,he8,h⟩ := bs h
 have hJp23 : ∀ (p23 : Unit) a w,(.inl p23) = e8 → St M w0 26 [] [] a w → K5 a w := by
  intro p23 a w he H
  subst he
  simp only at h
  refine k5 _ _ ?_
  refine sr mx [] H (fun _ => .o (Qa .k)<|.n) fun _ a w H => ?_
  have H := H.to [0] [_] [] rfl rfl
  refine wp_ret ?_
  obtain rfl := sj h
  exact rt undef [] hpl H (.tmp z0 .nil)
 have hJp24 : ∀ (p24 : Bool) a w,(.inr p24) = e8 → St M w0 26 [(4,tb p24)] [] a w → Ret Tryz.prog Tryz.f25 M0 [] w0 (fun _ => []) (fun _ => tb r) .ret a w := by
  intro p24 a w he H
  subst he
  simp only at h
  obtain rfl := sj h
  exact rt undef [] hpl H (.tmp z0 .nil)
 refine wp_block ?_
 refine QZ _ (fun (s7 : Int) a w => St M w0 26 [(5,ti s7),(0,tsl rI a_),(1,tsl rI b_)] [] a w) _ _ he8 (H.pick [0,1,2]) ?_
 clear h
 intro s7 o a w K26 hI h ho k26
 have H := hI
 clear hI
 refine wp_seq_k (fun _ k27 => ?_)
 refine sr mx [] H (fun _ => .q 0 rfl<|.q 2 rfl<|.o (QN ud22 z0)<|.o (QU z2 z0)<|.n) fun _ a w H => ?_
 have H := H.to [3,4,5,6] [_,_,_,_] [] rfl rfl
 refine wi H h (fun b33 h => ?_) (fun b33 h => ?_)
 ·refine wp_skip (k27 _ _ ?_)
  refine wp_seq_k (fun _ k29 => ?_)
  refine wp_block ?_
  have ⟨t19,ht19,h⟩ := bs h
  have ⟨t23,ht23,h⟩ := bs h
  refine sr mx [] H (fun _ => .q 2 rfl<|.q 2 rfl<|.o (QG ud22 tok3 z1 z0 ht19)<|.o (Qr tok3 z0)<|.q 7 rfl<|.q 6 rfl<|.o (QG ud22 tok3 z1 z0 ht23)<|.o (Qr tok3 z0)<|.o (Qam z4 z0)<|.n) fun _ a w H => ?_
  have H := H.to [8,10,11,12] [_,_,_,_] [] rfl rfl
  refine wi H h (fun b32 h => ?_) (fun b32 h => ?_)
  ·refine sr mx [] H (fun _ => .o (Qa .k)<|.n) fun _ a w H => ?_
   have H := H.to [0] [_] [] rfl rfl
   refine wp_ret ?_
   exact hJp24 _ _ _ (ho _ (sj h).symm) (H.pick [0])
  refine wp_skip (k29 _ _ ?_)
  refine wr mx [] H (fun _ => .q 1 rfl<|.o (QV z0 .k)<|.o (Qa z0)<|.n) fun _ a w H => ?_
  have H := H.to [2,4,5] [_,_,_] [] rfl rfl
  exact k26 _ _ _ (sj h).symm (H.pick [0,1,2])
 refine wp_exit ?_
 exact hJp23 _ _ _ (ho _ (sj h).symm) (H.pick [])

/- diorama/counts.Holds$1 -/
noncomputable def Qdt (n_ : Int) : Option (Bool) := (Qds n_).bind fun t4 => (some (!t4))
theorem Qmu {n_ : Int} {r : Bool} (h : Qdt n_ = some r) : FnOk Tryz.prog 44 [ti n_] [] (fun _ => []) (fun _ => tb r) := by
 unfold Qdt at h
 refine fe Tryz.func44 Tryz.ntmps44 fun M0 M w0 a hpl H => ?_
 replace H : St M w0 6 [(0,ti n_)] [] a w0 := H
 refine sr mx [] H (fun _ => .o (Qa .k)<|.n) fun _ a w H => ?_
 have H := H.to [1] [_] [] rfl rfl
 have ⟨t4,ht4,h⟩ := bs h
 refine sr mx [] H (fun _ => .q 0 rfl<|.o (Qh Qsu (QiV ht4) (.cons (.of z0)<|.nil))<|.o (Qar z0)<|.o (Qa z0)<|.n) fun _ a w H => ?_
 have H := H.to [3] [_] [] rfl rfl
 refine wp_ret ?_
 obtain rfl := sj h
 exact rt undef [] hpl H (.tmp z0 .nil)

/- diorama/counts.Holds -/
noncomputable def QbZ (l_ : Qb) (counts_ : (List Int)) : Option (Bool) := (QbD l_ (counts_.length : Int)).bind fun t8 => (opt (t8 == true) (QaD counts_ (fun x0 => Qdt x0)) default).bind fun t11 => (opt ((t8 && (!t11)) == true) (Qbi l_ counts_) default).bind fun t17 => (some ((t8 && (!t11)) && t17))
theorem QhE {l_ : Qb} {counts_ : (List Int)} {r : Bool} (h : QbZ l_ counts_ = some r) : FnOk Tryz.prog 21 [Qj.ty l_,tsl rI counts_] [] (fun _ => []) (fun _ => tb r) := by
 unfold QbZ at h
 refine fe Tryz.func21 Tryz.ntmps21 fun M0 M w0 a hpl H => ?_
 replace H : St M w0 19 [(0,Qj.ty l_),(1,tsl rI counts_)] [] a w0 := H
 refine sr mx [] H (fun _ => .o (QT (R := Qj) (u := l_) z0)<|.o (Qa .k)<|.n) fun _ a w H => ?_
 have H := H.to [0,3] [_,_] [] rfl rfl
 have ⟨t8,ht8,h⟩ := bs h
 have ⟨t11,ht11,h⟩ := bs h
 have ⟨t17,ht17,h⟩ := bs h
 refine sr mx [] H (fun _ => .o (Qr QaE z0)<|.q 2 rfl<|.o (QN ud22 z0)<|.o (Qh Qss (Qhd ht8) (.cons (.of z2)<|.cons (.of z0)<|.nil))<|.q 0 rfl<|.g rfl rfl bq0 (fun _ => Qw z6)<|.g rfl rfl bq1 (fun hc => Qh Qst (Qfx (Q9 ht11 hc)) (.cons (.of (.cond z0 hc))<|.cons (.of (Fct.weak .fnE (Qb1 call44 (fun _ _ hq => Qmu hq))))<|.nil))<|.g rfl rfl bq2 (fun hc => Qar (.cond z0 hc))<|.o (QY z3 (fun hp => (.cond z0 (beqT hp))))<|.q 0 rfl<|.g rfl rfl bq0 (fun _ => Qr QaE z10)<|.g rfl rfl bq1 (fun _ => Qw z12)<|.g rfl rfl bq2 (fun hc => Qh Qsv (Qhe (Q9 ht17 hc)) (.cons (.of (.cond z1 hc))<|.cons (.of (.cond z0 hc))<|.nil))<|.o (QY z3 (fun hp => (.cond z0 (beqT hp))))<|.o (Qa z0)<|.n) fun _ a w H => ?_
 have H := H.to [14] [_] [] rfl rfl
 refine wp_ret ?_
 obtain rfl := sj h
 exact rt undef [] hpl H (.tmp z0 .nil)

/- diorama/dioramalaw13.lives -/
noncomputable def QcN  : Option (Bool) := (QcA (3:Int)).bind fun t13 => (Qbq t13 [(2:Int),(9:Int)]).bind fun t15 => (QcA (3:Int)).bind fun t19 => (Qbq t19 [(1:Int),(9:Int)]).bind fun t21 => (QcA (9:Int)).bind fun t25 => (Qbq t25 [(2:Int),(9:Int)]).bind fun t27 => (QcA (9:Int)).bind fun t31 => (Qa2 t31).bind fun t32 => (if ((((((t15.2 != (0:Int)) || (t21.2 != (0:Int))) || (t27.2 != (14:Int))) || (t32.2.2 != (0:Int))) || ((t32.1.length : Int) != (6:Int))) || ((t32.2.1.length : Int) != (6:Int))) = true then (some false) else (Qbz (2:Int) t32.1).bind fun t62 => (opt ((t62.2 != (0:Int)) == false) (QcM t62.1 [(1:Int),(2:Int),(5:Int)]) default).bind fun t70 => (opt (((t62.2 != (0:Int)) || (!t70)) == false) (idx t32.2.1 (1:Int)) default).bind fun t75 => (opt ((((t62.2 != (0:Int)) || (!t70)) || (t75 != ([97,32,109,111,115,116] : Str))) == false) (idx t32.2.1 (2:Int)) default).bind fun t81 => (opt (((((t62.2 != (0:Int)) || (!t70)) || (t75 != ([97,32,109,111,115,116] : Str))) || (t81 != ([98,32,108,101,97,115,116] : Str))) == false) (idx t32.2.1 (5:Int)) default).bind fun t87 => (if (((((t62.2 != (0:Int)) || (!t70)) || (t75 != ([97,32,109,111,115,116] : Str))) || (t81 != ([98,32,108,101,97,115,116] : Str))) || (t87 != ([98,46,111,102,32,109,111,115,116] : Str))) = true then (some false) else (QcM t15.1 [(2:Int),(8:Int)]).bind fun t93 => (opt (t93 == true) (QcM t21.1 [(2:Int),(8:Int)]) default).bind fun t97 => (opt ((t93 && t97) == true) (idx t32.1 (5:Int)) default).bind fun t101 => (opt ((t93 && t97) == true) (QbZ t101 [(2:Int),(9:Int)]) default).bind fun t104 => (opt (((t93 && t97) && (!t104)) == true) (idx t32.1 (5:Int)) default).bind fun t109 => (opt (((t93 && t97) && (!t104)) == true) (QbZ t109 [(2:Int),(8:Int)]) default).bind fun t112 => (some (((t93 && t97) && (!t104)) && t112))))
theorem Qkk {r : Bool} (h : QcN  = some r) : FnOk Tryz.prog 16 [] [glo] (fun _ => []) (fun _ => tb r) := by
 unfold QcN at h
 refine fe Tryz.func16 Tryz.ntmps16 fun M0 M w0 a hpl H => ?_
 replace H : St M w0 114 [] [glo] a w0 := H
 refine sr mx [] H (fun _ => .o (Qa .k)<|.n) fun _ a w H => ?_
 have H := H.to [] [] [_] rfl rfl
 have ⟨t13,ht13,h⟩ := bs h
 have ⟨t15,ht15,h⟩ := bs h
 refine sr mx [] H (fun _ => .o (Qh Qnx (Qff ht13) (.cons (.of .k)<|.nil))<|.o (QE (R := rI) (us := [(2:Int),(9:Int)]) ud22 tok3 (.cons .k<|.cons .k<|.nil _) rfl (leb rfl))<|.u [0] rfl rfl ((Qh Qnw (Qgm ht15) (.cons (.of z1)<|.cons (.of z0)<|.nil)).glo)<|.q 0 rfl<|.o (QM z0 rfl)<|.o (QM z1 rfl)<|.o (Qa z1)<|.o (Qa z1)<|.n) fun _ a w H => ?_
 have H := H.to [6,7] [_,_] [_] rfl rfl
 have ⟨t19,ht19,h⟩ := bs h
 have ⟨t21,ht21,h⟩ := bs h
 refine sr mx [] H (fun _ => .o (Qh Qnx (Qff ht19) (.cons (.of .k)<|.nil))<|.o (QE (R := rI) (us := [(1:Int),(9:Int)]) ud22 tok3 (.cons .k<|.cons .k<|.nil _) rfl (leb rfl))<|.u [0] rfl rfl ((Qh Qnw (Qgm ht21) (.cons (.of z1)<|.cons (.of z0)<|.nil)).glo)<|.q 0 rfl<|.o (QM z0 rfl)<|.o (QM z1 rfl)<|.o (Qa z1)<|.o (Qa z1)<|.n) fun _ a w H => ?_
 have H := H.to [6,7,8,9] [_,_,_,_] [_] rfl rfl
 have ⟨t25,ht25,h⟩ := bs h
 have ⟨t27,ht27,h⟩ := bs h
 refine sr mx [] H (fun _ => .o (Qh Qnx (Qff ht25) (.cons (.of .k)<|.nil))<|.o (QE (R := rI) (us := [(2:Int),(9:Int)]) ud22 tok3 (.cons .k<|.cons .k<|.nil _) rfl (leb rfl))<|.u [0] rfl rfl ((Qh Qnw (Qgm ht27) (.cons (.of z1)<|.cons (.of z0)<|.nil)).glo)<|.q 0 rfl<|.o (QM z0 rfl)<|.o (QM z1 rfl)<|.o (Qa z1)<|.o (Qa z1)<|.n) fun _ a w H => ?_
 have H := H.to [7,8,9,10,11] [_,_,_,_,_] [_] rfl rfl
 have ⟨t31,ht31,h⟩ := bs h
 have ⟨t32,ht32,h⟩ := bs h
 refine sr mx [] H (fun _ => .o (Qh Qnx (Qff ht31) (.cons (.of .k)<|.nil))<|.u [0] rfl rfl ((Qh QpY (QgV ht32) (.cons (.of z0)<|.nil)).glo)<|.q 0 rfl<|.o (QM z0 rfl)<|.o (QM z1 rfl)<|.o (QM z2 rfl)<|.o (Qa z2)<|.o (Qa z2)<|.o (Qa z2)<|.n) fun _ a w H => ?_
 have H := H.to [6,7,8,9,10,11,12,13] [_,_,_,_,_,_,_,_] [_] rfl rfl
 refine wp_seq_k (fun _ k6 => ?_)
 refine sr mx [] H (fun _ => .q 7 rfl<|.o (Qam z0 .k)<|.q 0 rfl<|.g rfl rfl bq0 (fun _ => Qw z8)<|.g rfl rfl bq1 (fun hc => Qam (.cond z0 hc) .k)<|.o (Qao z2 (fun hp => (.cond z0 (beqF hp))))<|.q 0 rfl<|.g rfl rfl bq0 (fun _ => Qw z10)<|.g rfl rfl bq1 (fun hc => Qam (.cond z0 hc) .k)<|.o (Qao z2 (fun hp => (.cond z0 (beqF hp))))<|.q 0 rfl<|.g rfl rfl bq0 (fun _ => Qw z13)<|.g rfl rfl bq1 (fun hc => Qam (.cond z0 hc) .k)<|.o (Qao z2 (fun hp => (.cond z0 (beqF hp))))<|.q 0 rfl<|.g rfl rfl bq0 (fun _ => Qw z15)<|.g rfl rfl bq1 (fun hc => QN ud31 (.cond z0 hc))<|.g rfl rfl bq2 (fun hc => Qam (.cond z0 hc) .k)<|.o (Qao z3 (fun hp => (.cond z0 (beqF hp))))<|.q 0 rfl<|.g rfl rfl bq0 (fun _ => Qw z21)<|.g rfl rfl bq1 (fun hc => QN ud32 (.cond z0 hc))<|.g rfl rfl bq2 (fun hc => Qam (.cond z0 hc) .k)<|.o (Qao z3 (fun hp => (.cond z0 (beqF hp))))<|.n) fun _ a w H => ?_
 have H := H.to [23,24,25,28,30] [_,_,_,_,_] [_] rfl rfl
 refine wi H h (fun b15 h => ?_) (fun b15 h => ?_)
 ·refine sr mx [] H (fun _ => .o (Qa .k)<|.n) fun _ a w H => ?_
  have H := H.to [0] [_] [_] rfl rfl
  refine wp_ret ?_
  obtain rfl := sj h
  exact rt undef [] hpl H (.tmp z0 .nil)
 refine wp_skip (k6 _ _ ?_)
 have ⟨t62,ht62,h⟩ := bs h
 refine sr mx [] H (fun _ => .q 1 rfl<|.u [0] rfl rfl ((Qh Qp1 (QhD ht62) (.cons (.of .k)<|.cons (.of z0)<|.nil)).glo)<|.q 0 rfl<|.o (QM z0 rfl)<|.o (QM z1 rfl)<|.o (Qa z1)<|.o (Qa z1)<|.n) fun _ a w H => ?_
 have H := H.to [5,6,8,9,10,11] [_,_,_,_,_,_] [_] rfl rfl
 refine wp_seq_k (fun _ k10 => ?_)
 have ⟨t70,ht70,h⟩ := bs h
 have ⟨t75,ht75,h⟩ := bs h
 have ⟨t81,ht81,h⟩ := bs h
 have ⟨t87,ht87,h⟩ := bs h
 refine sr mx [] H (fun _ => .q 1 rfl<|.o (Qam z0 .k)<|.q 0 rfl<|.g rfl rfl bq0 (fun _ => Qw z3)<|.g rfl rfl bq1 (fun _ => QE (R := rI) (us := [(1:Int),(2:Int),(5:Int)]) ud22 tok3 (.cons .k<|.cons .k<|.cons .k<|.nil _) rfl (leb rfl))<|.g rfl rfl bq2 (fun hc => Qh Qp0 (Qgv (Q9 ht70 hc)) (.cons (.of (.cond z1 hc))<|.cons (.of (.cond z0 hc))<|.nil))<|.g rfl rfl bq3 (fun hc => Qar (.cond z0 hc))<|.o (Qao z4 (fun hp => (.cond z0 (beqF hp))))<|.q 0 rfl<|.g rfl rfl bq0 (fun _ => Qw z12)<|.g rfl rfl bq1 (fun hc => QG ud32 tok9 (.cond z0 hc) .k (Q9 ht75 hc))<|.g rfl rfl bq2 (fun hc => Qr tok9 (.cond z0 hc))<|.g rfl rfl bq3 (fun hc => Qh4 (.cond z0 hc) .k)<|.o (Qao z4 (fun hp => (.cond z0 (beqF hp))))<|.q 0 rfl<|.g rfl rfl bq0 (fun _ => Qw z18)<|.g rfl rfl bq1 (fun hc => QG ud32 tok9 (.cond z0 hc) .k (Q9 ht81 hc))<|.g rfl rfl bq2 (fun hc => Qr tok9 (.cond z0 hc))<|.g rfl rfl bq3 (fun hc => Qh4 (.cond z0 hc) .k)<|.o (Qao z4 (fun hp => (.cond z0 (beqF hp))))<|.q 0 rfl<|.g rfl rfl bq0 (fun _ => Qw z24)<|.g rfl rfl bq1 (fun hc => QG ud32 tok9 (.cond z0 hc) .k (Q9 ht87 hc))<|.g rfl rfl bq2 (fun hc => Qr tok9 (.cond z0 hc))<|.g rfl rfl bq3 (fun hc => Qh4 (.cond z0 hc) .k)<|.o (Qao z4 (fun hp => (.cond z0 (beqF hp))))<|.n) fun _ a w H => ?_
 have H := H.to [25,28,30,31] [_,_,_,_] [_] rfl rfl
 refine wi H h (fun b14 h => ?_) (fun b14 h => ?_)
 ·refine sr mx [] H (fun _ => .o (Qa .k)<|.n) fun _ a w H => ?_
  have H := H.to [0] [_] [_] rfl rfl
  refine wp_ret ?_
  obtain rfl := sj h
  exact rt undef [] hpl H (.tmp z0 .nil)
 refine wp_skip (k10 _ _ ?_)
 have ⟨t93,ht93,h⟩ := bs h
 have ⟨t97,ht97,h⟩ := bs h
 have ⟨t101,ht101,h⟩ := bs h
 have ⟨t104,ht104,h⟩ := bs h
 have ⟨t109,ht109,h⟩ := bs h
 have ⟨t112,ht112,h⟩ := bs h
 refine sr mx [] H (fun _ => .q 3 rfl<|.o (QE (R := rI) (us := [(2:Int),(8:Int)]) ud22 tok3 (.cons .k<|.cons .k<|.nil _) rfl (leb rfl))<|.o (Qh Qp0 (Qgv ht93) (.cons (.of z1)<|.cons (.of z0)<|.nil))<|.q 0 rfl<|.g rfl rfl bq0 (fun _ => Qw z6)<|.g rfl rfl bq1 (fun _ => QE (R := rI) (us := [(2:Int),(8:Int)]) ud22 tok3 (.cons .k<|.cons .k<|.nil _) rfl (leb rfl))<|.g rfl rfl bq2 (fun hc => Qh Qp0 (Qgv (Q9 ht97 hc)) (.cons (.of (.cond z1 hc))<|.cons (.of (.cond z0 hc))<|.nil))<|.o (QY z3 (fun hp => (.cond z0 (beqT hp))))<|.q 0 rfl<|.g rfl rfl bq0 (fun _ => Qw z10)<|.g rfl rfl bq1 (fun hc => QG ud31 QaE (.cond z0 hc) .k (Q9 ht101 hc))<|.g rfl rfl bq2 (fun hc => Qr QaE (.cond z0 hc))<|.g rfl rfl bq3 (fun _ => QE (R := rI) (us := [(2:Int),(9:Int)]) ud22 tok3 (.cons .k<|.cons .k<|.nil _) rfl (leb rfl))<|.g rfl rfl bq4 (fun hc => Qh QpZ (QhE (Q9 ht104 hc)) (.cons (.of (.cond z1 hc))<|.cons (.of (.cond z0 hc))<|.nil))<|.g rfl rfl bq5 (fun hc => Qar (.cond z0 hc))<|.o (QY z6 (fun hp => (.cond z0 (beqT hp))))<|.q 0 rfl<|.g rfl rfl bq0 (fun _ => Qw z18)<|.g rfl rfl bq1 (fun hc => QG ud31 QaE (.cond z0 hc) .k (Q9 ht109 hc))<|.g rfl rfl bq2 (fun hc => Qr QaE (.cond z0 hc))<|.g rfl rfl bq3 (fun _ => QE (R := rI) (us := [(2:Int),(8:Int)]) ud22 tok3 (.cons .k<|.cons .k<|.nil _) rfl (leb rfl))<|.g rfl rfl bq4 (fun hc => Qh QpZ (QhE (Q9 ht112 hc)) (.cons (.of (.cond z1 hc))<|.cons (.of (.cond z0 hc))<|.nil))<|.o (QY z5 (fun hp => (.cond z0 (beqT hp))))<|.o (Qa z0)<|.n) fun _ a w H => ?_
 have H := H.to [23] [_] [_] rfl rfl
 refine wp_ret ?_
 obtain rfl := sj h
 exact rt undef [] hpl H (.tmp z0 .nil)

/- diorama/dioramalaw13.some -/
noncomputable def QgI (l_ : (List Int)) (n_ : Int) : Option ((List Int)) := (QI (fun (s6 : Int × List Int) => ((if (decide (s6.1 < n_)) = true then (Qe4 l_ s6.1 (12:Int)).bind fun t15 => (rm (s6.2.length + [t15].length)).bind fun _ => (some (.inl ((IntKind.i64.wrap (s6.1 + (1:Int))),(s6.2 ++ [t15])))) else (some (.inr s6.2))) : Option ((Int × List Int) ⊕ ((List Int))))) ((0:Int),([] : List Int))).bind fun (p17 : (List Int)) => (some p17)
theorem Qpi {l_ : (List Int)} {n_ : Int} {r : (List Int)} (h : QgI l_ n_ = some r) : FnOk Tryz.prog 19 [tsl rI l_,ti n_] [] (fun _ => []) (fun _ => tsl rI r) := by
 unfold QgI at h
 refine fe Tryz.func19 Tryz.ntmps19 fun M0 M w0 a hpl H => ?_
 replace H : St M w0 19 [(0,tsl rI l_),(1,ti n_)] [] a w0 := H
 refine sr mx [] H (fun _ => .o (Qa (.nilsl (R := rI)))<|.n) fun _ a w H => ?_
 have H := H.to [1,2] [_,_] [] rfl rfl
 refine sr mx [] H (fun _ => .o (Qa .k)<|.n) fun _ a w H => ?_
 replace H : St _ _ _ [_,_,_] [_] _ _ := (H.pick [0,1,2]).nil (rI) 3
 refine wp_seq_k (fun K4 k4 => ?_)
 refine sr mx [] H (fun _ => .o (Qa .k)<|.n) fun _ a w H => ?_
 have H := H.to [0,1,2,3] [_,_,_,_] [_] rfl rfl
 have ⟨e7,he7,h⟩ := bs h
 have hJp17 : ∀ (p17 : List Int) (v18 : Value) a w,p17 = e7 → St M w0 19 [(5,tv v18)] [own rI 3 p17 v18] a w → K4 a w := by
  intro p17 v18 a w he H
  subst he
  refine k4 _ _ ?_
  refine sr mx [] H (fun _ => .q 0 rfl<|.o (Qa z0)<|.n) fun _ a w H => ?_
  have H := H.to [0,1,2] [_,_,_] [_] rfl rfl
  refine wp_ret ?_
  replace H : St _ _ _ [_] [] _ _ := (H.shareO 1 rfl).pick [0]
  obtain rfl := sj h
  exact rt undef [] hpl H (.tmp z0 .nil)
 refine wp_block ?_
 refine QZ _ (fun (s6 : Int × List Int) a w => ∃ v12 : Value,St M w0 19 [(6,ti s6.1),(5,tv v12),(0,tsl rI l_),(1,ti n_)] [own rI 3 s6.2 v12] a w) _ _ he7 ⟨(.slice none 0 0),H.pick [0,1,2,3]⟩ ?_
 clear h
 intro s6 o a w K20 hI h ho k20
 obtain ⟨v12,H⟩ := hI
 refine wp_seq_k (fun _ k21 => ?_)
 refine sr mx [] H (fun _ => .q 0 rfl<|.q 4 rfl<|.o (QU z1 z0)<|.n) fun _ a w H => ?_
 have H := H.to [2,3,4,5,6] [_,_,_,_,_] [_] rfl rfl
 refine wi H h (fun b24 h => ?_) (fun b24 h => ?_)
 ·refine wp_skip (k21 _ _ ?_)
  refine wp_seq_k (fun _ k23 => ?_)
  refine wp_block ?_
  have ⟨t15,ht15,h⟩ := bs h
  have ⟨u17,hu17,h⟩ := bs h
  refine wr mx [v1 5 (fun v0 => own rI 3 (s6.2 ++ [t15]) v0)] H (fun _ => .q 2 rfl<|.q 4 rfl<|.q 3 rfl<|.o (Qh Qsr (Qmz ht15) (.cons (.of z1)<|.cons (.of z0)<|.cons (.of .k)<|.nil))<|.o (QE (R := rI) (us := [t15]) ud22 tok3 (.cons z0<|.nil _) rfl (leb rfl))<|.e [] [0] [1] rfl rfl rfl rfl (Qaf (R := rI) ud22 tok3 (leb rfl) z4 z0 hu17)<|.ud (f := fun v => tv v) 5 rfl [] rfl rfl (Qa z0)<|.n) fun n5 a w H => ?_
  have H := H.to [5,6,8,9,10] [_,_,_,_,_] [_] rfl rfl
  refine k23 _ _ ?_
  refine wr mx [] H (fun _ => .q 2 rfl<|.o (QV z0 .k)<|.o (Qa z0)<|.n) fun _ a w H => ?_
  have H := H.to [2,3,4,5,6] [_,_,_,_,_] [_] rfl rfl
  exact k20 _ _ _ (sj h).symm ⟨(n5 5),H.pick [0,2,3,4]⟩
 refine wp_exit ?_
 exact hJp17 _ v12 _ _ (ho _ (sj h).symm) (H.pick [2])

/- diorama/dioramalaw13.CountsSmallest -/
noncomputable def QcB (l_ : (List Int)) (at_ : Int) (more_ : Int) (other_ : (List Int)) : Option (Bool) := (QbY l_).bind fun t27 => (Qbn at_ ((t27).Kinds.length : Int)).bind fun t32 => (rm (([] : List Qi).length + (t27).Kinds.length)).bind fun _ => (Qbn more_ (30:Int)).bind fun t42 => (idx (([] : List Qi) ++ (t27).Kinds) t32).bind fun t43 => (setAt (([] : List Qi) ++ (t27).Kinds) t32 { t43 with Lo := t42 }).bind fun t43s => (idx t43s t32).bind fun t51 => (Qbn (IntKind.i64.wrap (Int.tdiv more_ (30:Int))) (6:Int)).bind fun t56 => (idx t43s t32).bind fun t58 => (setAt t43s t32 { t58 with Hi := (IntKind.i64.wrap ((t51).Lo + t56)) }).bind fun t58s => (Qa2 (Qg.mk (t27).Version t58s (t27).Lives (t27).Rules)).bind fun t65 => (mk (t58s.length : Int) (0:Int)).bind fun t72 => (Qbq (Qg.mk (t27).Version t58s (t27).Lives (t27).Rules) t72).bind fun t73 => (Qbz (t58s.length : Int) t65.1).bind fun t79 => (if ((((t65.2.2 != (0:Int)) || ((t73.2 == (14:Int)) != (t79.2 == (0:Int)))) || ((t73.2 != (0:Int)) && (t73.2 != (14:Int)))) || ((t79.2 != (0:Int)) && (t79.2 != (6:Int)))) = true then (some false) else (if (t79.2 != (0:Int)) = true then (QcN).bind fun t109 => (some t109) else (QI (fun (s24 : Int × Bool × List Qb) => ((if (decide (s24.1 < (t79.1.length : Int))) = true then (idx t79.1 s24.1).bind fun t118 => (opt ((decide (t118 < (0:Int))) == false) (idx t79.1 s24.1) default).bind fun t124 => (opt ((((decide (t118 < (0:Int))) || (decide (t124 ≥ (t65.1.length : Int)))) == false) && ((decide (s24.1 > (0:Int))) == true)) (idx t79.1 s24.1) default).bind fun t136 => (opt ((((decide (t118 < (0:Int))) || (decide (t124 ≥ (t65.1.length : Int)))) == false) && ((decide (s24.1 > (0:Int))) == true)) (idx t79.1 (IntKind.i64.wrap (s24.1 - (1:Int)))) default).bind fun t141 => (if (((decide (t118 < (0:Int))) || (decide (t124 ≥ (t65.1.length : Int)))) || ((decide (s24.1 > (0:Int))) && (decide (t136 ≤ t141)))) = true then (some (.inr (.inr false))) else (idx t79.1 s24.1).bind fun t150 => (idx t65.1 t150).bind fun t152 => (rm (s24.2.2.length + [t152].length)).bind fun _ => (opt (s24.2.1 == true) (idx t79.1 s24.1) default).bind fun t161 => (opt (s24.2.1 == true) (idx t65.1 t161) default).bind fun t163 => (opt (s24.2.1 == true) (QgI other_ (t58s.length : Int)) default).bind fun t167 => (opt (s24.2.1 == true) (QbZ t163 t167) default).bind fun t168 => (some (.inl ((IntKind.i64.wrap (s24.1 + (1:Int))),(s24.2.1 && t168),(s24.2.2 ++ [t152]))))) else (some (.inr (.inl (s24.2.1,s24.2.2))))) : Option ((Int × Bool × List Qb) ⊕ ((Bool × List Qb) ⊕ (Bool))))) ((0:Int),true,([] : List Qb))).bind fun (e25 : (Bool × List Qb) ⊕ (Bool)) => (match e25 with | .inl p45 => (if (p45.1 || ((p45.2.length : Int) == (0:Int))) = true then (some false) else (QI (fun (s53 : Int) => ((if (decide (s53 < (p45.2.length : Int))) = true then (sub p45.2 (0:Int) s53).bind fun t185 => (rm (([] : List Qb).length + t185.length)).bind fun _ => (sub p45.2 (IntKind.i64.wrap (s53 + (1:Int))) (p45.2.length : Int)).bind fun t190 => (rm ((([] : List Qb) ++ t185).length + t190.length)).bind fun _ => (Qbz (t58s.length : Int) ((([] : List Qb) ++ t185) ++ t190)).bind fun t195 => (if (t195.2 != (6:Int)) = true then (some (.inr (.inr false))) else (some (.inl (IntKind.i64.wrap (s53 + (1:Int)))))) else (some (.inr (.inl ())))) : Option ((Int) ⊕ ((Unit) ⊕ (Bool))))) (0:Int)).bind fun (e54 : (Unit) ⊕ (Bool)) => (match e54 with | .inl _ => (QcN).bind fun t200 => (some t200) | .inr p89 => (some p89))) | .inr p47 => (some p47))))
theorem QjK {l_ : (List Int)} {at_ : Int} {more_ : Int} {other_ : (List Int)} {r : Bool} (h : QcB l_ at_ more_ other_ = some r) : FnOk Tryz.prog 8 [tsl rI l_,ti at_,ti more_,tsl rI other_] [glo] (fun _ => []) (fun _ => tb r) := by
 unfold QcB at h
 refine fe Tryz.func8 Tryz.ntmps8 fun M0 M w0 a hpl H => ?_
 replace H : St M w0 201 [(0,tsl rI l_),(1,ti at_),(2,ti more_),(3,tsl rI other_)] [glo] a w0 := H
 refine sr mx [] H (fun _ => .o (Qa .k)<|.n) fun _ a w H => ?_
 have H := H.to [1,2,3,4] [_,_,_,_] [_] rfl rfl
 have ⟨t27,ht27,h⟩ := bs h
 refine sr mx [v1 2 (fun v0 => box (Qm.cs zz4) v0),v1 2 (fun v0 => box (Qm.cs t27) v0)] H (fun _ => .q 0 rfl<|.o (Qh call10 (QnC ht27) (.cons (.of z0)<|.nil))<|.m [] [1] rfl rfl rfl (Q1 (R := Qm) (a := zz4) QaR Qpr)<|.e [] [1] [2] rfl rfl rfl rfl (QR (R := Qm) (a := t27) QaR z0 z1 (leb rfl))<|.n) fun n1 a w H => ?_
 have H := H.to [2,4,5,6] [_,_,_,_] [_,_] rfl rfl
 have ⟨t32,ht32,h⟩ := bs h
 refine sr mx [] H (fun _ => .q 1 rfl<|.u [1] rfl rfl (Qz QaJ z1)<|.u [1] rfl rfl (QaM (R := (rSl Qk)) (u := (t27).Kinds) Qdp z0 rfl)<|.o (QN ud23 z0)<|.o (Qh Qnv (QfO ht32) (.cons (.of z3)<|.cons (.of z0)<|.nil))<|.o (Qa z0)<|.n) fun _ a w H => ?_
 have H := H.to [5,6,8,9] [_,_,_,_] [_,_] rfl rfl
 refine wp_seq_k (fun _ k5 => ?_)
 have ⟨u36,hu36,h⟩ := bs h
 refine wr mx [v1 0 (fun v0 => own Qk 55 ([] : List Qi) v0),v1 3 (fun v0 => own Qk 55 (([] : List Qi) ++ (t27).Kinds) v0),v1 3 (fun v0 => box ([ti (t27).Version,tvs v0,tsl QJ (t27).Lives,tsl QC (t27).Rules]) (n1 2))] H (fun _ => .m [] [2] rfl rfl rfl (QgE (R := Qk) (us := ([] : List Qi)) ud23 Q7 (.nil _) rfl (leb rfl) (leb rfl))<|.u [1] rfl rfl (Qz QaJ z2)<|.u [1] rfl rfl (QaM (R := (rSl Qk)) (u := (t27).Kinds) Qdp z0 rfl)<|.e [] [2] [3] rfl rfl rfl rfl (Qaf (R := Qk) ud23 Q7 (leb rfl) z2 z0 hu36)<|.u [1] rfl rfl (Qz QaJ z5)<|.e [3] [1] [4] rfl rfl rfl rfl (Qa9 (R := Qk) (e := 55) (Ts := (Qm.cs t27)) (off := 1) Qhv z0 z1 (leb rfl))<|.n) fun n3 a w H => ?_
 have H := H.to [3,5,6,7,8] [_,_,_,_,_] [_,_,_] rfl rfl
 refine k5 _ _ ?_
 have ⟨t42,ht42,h⟩ := bs h
 have ⟨t43,ht43,h⟩ := bs h
 have ⟨t43s,ht43s,h⟩ := bs h
 refine sr mx [v0 (own Qk 55 t43s (n3 3))] H (fun _ => .u [2] rfl rfl (Qz QaJ z2)<|.u [2] rfl rfl (Qac (u := (n3 3)) Qhv z0 rfl)<|.q 3 rfl<|.q 6 rfl<|.o (Qh Qnv (QfO ht42) (.cons (.of z0)<|.cons (.of .k)<|.nil))<|.u [1] rfl rfl (Qcl ud23 Q7 z3 z2 ht43)<|.u [1] rfl rfl (Qew Qjd z0 (Qhn ht43))<|.e [] [1] [3] rfl rfl rfl rfl (QkF (u := { t43 with Lo := t42 }) tok3 z0 z2 ht43 ht43s (leb rfl) rfl)<|.n) fun _ a w H => ?_
 have H := H.to [1,7,8,9,10,11] [_,_,_,_,_,_] [_,_,_] rfl rfl
 have ⟨t51,ht51,h⟩ := bs h
 have ⟨t56,ht56,h⟩ := bs h
 have ⟨t58,ht58,h⟩ := bs h
 have ⟨t58s,ht58s,h⟩ := bs h
 refine sr mx [v0 (own Qk 55 t58s (n3 3))] H (fun _ => .u [1] rfl rfl (Qz QaJ z3)<|.u [1] rfl rfl (Qac (u := (n3 3)) Qhv z0 rfl)<|.q 4 rfl<|.u [1] rfl rfl (Qz QaJ z6)<|.u [1] rfl rfl (Qac (u := (n3 3)) Qhv z0 rfl)<|.q 7 rfl<|.u [2] rfl rfl (Qcl ud23 Q7 z1 z0 ht51)<|.u [2] rfl rfl (Qew Qjd z0 (Qhn ht51))<|.u [2] rfl rfl (Qhb (R2 := rI) (f := (t51).Lo) tok3 z0 ht51 rfl)<|.q 13 rfl<|.o (Qr8 z0 .k (by decide))<|.o (Qh Qnv (QfO ht56) (.cons (.of z0)<|.cons (.of .k)<|.nil))<|.o (QV z3 z0)<|.u [2] rfl rfl (Qcl ud23 Q7 z11 z10 ht58)<|.u [2] rfl rfl (Qew Qka z0 (Qhn ht58))<|.e [] [2] [3] rfl rfl rfl rfl (QkF (u := { t58 with Hi := (IntKind.i64.wrap ((t51).Lo + t56)) }) tok3 z0 z2 ht58 ht58s (leb rfl) rfl)<|.n) fun _ a w H => ?_
 have H := H.to [1,4,15,16,18,20] [_,_,_,_,_,_] [_,_,_] rfl rfl
 refine sr mx [] H (fun _ => .u [1] rfl rfl (Qz QaJ z4)<|.u [1] rfl rfl (Qac (u := (n3 3)) Qhv z0 rfl)<|.u [2] rfl rfl (Qj6 ud23 z0)<|.o (Qa z0)<|.n) fun _ a w H => ?_
 have H := H.to [1,3,4,5,6,7,8,9] [_,_,_,_,_,_,_,_] [_,_,_] rfl rfl
 refine wp_seq_k (fun _ k10 => ?_)
 replace H : St _ _ _ [_,_,_] [_,_] _ _ := ((H.pick [1,6,7]).selA [2,1,0] rfl).shareC 1 rfl
 have ⟨t65,ht65,h⟩ := bs h
 refine wr mx [] H (fun _ => .u [0] rfl rfl (Qdy (R := Qm) (u := (Qg.mk (t27).Version t58s (t27).Lives (t27).Rules)) QaR z1 rfl)<|.u [1] rfl rfl ((Qh QpY (QgV ht65) (.cons (.of z0)<|.nil)).glo)<|.q 0 rfl<|.o (QM z0 rfl)<|.o (QM z1 rfl)<|.o (QM z2 rfl)<|.o (Qa z2)<|.o (Qa z2)<|.o (Qa z2)<|.n) fun _ a w H => ?_
 have H := H.to [6,8,9,10,11] [_,_,_,_,_] [_,_] rfl rfl
 refine k10 _ _ ?_
 have ⟨t72,ht72,h⟩ := bs h
 have ⟨t73,ht73,h⟩ := bs h
 refine sr mx [] H (fun _ => .u [0] rfl rfl (Qdy (R := Qm) (u := (Qg.mk (t27).Version t58s (t27).Lives (t27).Rules)) QaR z3 rfl)<|.q 3 rfl<|.o (QuK (R := rI) ud22 tok3 zok3 (leb rfl) z0 z0 ht72)<|.u [1] rfl rfl ((Qh Qnw (Qgm ht73) (.cons (.of z2)<|.cons (.of z0)<|.nil)).glo)<|.q 0 rfl<|.o (QM z0 rfl)<|.o (QM z1 rfl)<|.o (Qa z1)<|.o (Qa z1)<|.n) fun _ a w H => ?_
 replace H : St _ _ _ [_,_,_,_,_] [_] _ _ := (H.pick [8,9,10,11,13]).selA [1] rfl
 have ⟨t79,ht79,h⟩ := bs h
 refine sr mx [] H (fun _ => .q 3 rfl<|.q 2 rfl<|.u [0] rfl rfl ((Qh Qp1 (QhD ht79) (.cons (.of z1)<|.cons (.of z0)<|.nil)).glo)<|.q 0 rfl<|.o (QM z0 rfl)<|.o (QM z1 rfl)<|.o (Qa z1)<|.o (Qa z1)<|.n) fun _ a w H => ?_
 have H := H.to [6,7,8,9,10,11,12] [_,_,_,_,_,_,_] [_] rfl rfl
 refine wp_seq_k (fun _ k13 => ?_)
 refine sr mx [] H (fun _ => .q 4 rfl<|.o (Qam z0 .k)<|.q 0 rfl<|.g rfl rfl bq0 (fun _ => Qw z5)<|.g rfl rfl bq1 (fun hc => Q4 (.cond z0 hc) .k)<|.g rfl rfl bq2 (fun _ => Qw z6)<|.g rfl rfl bq3 (fun hc => Q4 (.cond z0 hc) .k)<|.g rfl rfl bq4 (fun hc => QuN Tryz.underlying4 (.cond z2 hc) (.cond z0 hc))<|.o (Qao z5 (fun hp => (.cond z0 (beqF hp))))<|.q 0 rfl<|.g rfl rfl bq0 (fun _ => Qw z12)<|.g rfl rfl bq1 (fun hc => Qam (.cond z0 hc) .k)<|.g rfl rfl bq2 (fun hc => Qw (.cond z0 hc))<|.g rfl rfl (.c 0 rfl) (fun _ => Qw z15)<|.g rfl rfl (.c 1 rfl) (fun hc => Qam (.cond z0 hc) .k)<|.g rfl rfl bq5 (fun hc => QY (.cond z2 hc) (fun hp => (.cond z0 (Qga hc (beqT hp)))))<|.o (Qao z6 (fun hp => (.cond z0 (beqF hp))))<|.q 0 rfl<|.g rfl rfl bq0 (fun _ => Qw z19)<|.g rfl rfl bq1 (fun hc => Qam (.cond z0 hc) .k)<|.g rfl rfl bq2 (fun hc => Qw (.cond z0 hc))<|.g rfl rfl (.c 0 rfl) (fun _ => Qw z22)<|.g rfl rfl (.c 1 rfl) (fun hc => Qam (.cond z0 hc) .k)<|.g rfl rfl bq5 (fun hc => QY (.cond z2 hc) (fun hp => (.cond z0 (Qga hc (beqT hp)))))<|.o (Qao z6 (fun hp => (.cond z0 (beqF hp))))<|.n) fun _ a w H => ?_
 have H := H.to [24,25,26,28,30,31] [_,_,_,_,_,_] [_] rfl rfl
 refine wi H h (fun b115 h => ?_) (fun b115 h => ?_)
 ·refine sr mx [] H (fun _ => .o (Qa .k)<|.n) fun _ a w H => ?_
  have H := H.to [0] [_] [_] rfl rfl
  refine wp_ret ?_
  obtain rfl := sj h
  exact rt undef [] hpl H (.tmp z0 .nil)
 refine wp_skip (k13 _ _ ?_)
 refine wp_seq_k (fun _ k16 => ?_)
 refine sr mx [] H (fun _ => .q 2 rfl<|.o (Qam z0 .k)<|.n) fun _ a w H => ?_
 have H := H.to [1,3,5,6,7] [_,_,_,_,_] [_] rfl rfl
 refine wi H h (fun b114 h => ?_) (fun b114 h => ?_)
 ·have ⟨t109,ht109,h⟩ := bs h
  refine sr mx [] H (fun _ => .u [0] rfl rfl ((Qh Qsp (Qkk ht109) (.nil)).glo)<|.o (Qa z0)<|.n) fun _ a w H => ?_
  have H := H.to [1] [_] [_] rfl rfl
  refine wp_ret ?_
  obtain rfl := sj h
  exact rt undef [] hpl H (.tmp z0 .nil)
 refine wp_skip (k16 _ _ ?_)
 refine sr mx [] H (fun _ => .o (Qa .k)<|.n) fun _ a w H => ?_
 have H := H.to [0,2,3,4,5] [_,_,_,_,_] [_] rfl rfl
 refine sr mx [] H (fun _ => .o (Qa .k)<|.n) fun _ a w H => ?_
 replace H : St _ _ _ [_,_,_,_,_,_] [_,_] _ _ := (H.pick [0,1,2,3,4,5]).nil (Qj) 43
 refine wp_seq_k (fun K22 k22 => ?_)
 refine sr mx [] H (fun _ => .o (Qa .k)<|.n) fun _ a w H => ?_
 have H := H.to [0,1,2,3,4,5,6] [_,_,_,_,_,_,_] [_,_] rfl rfl
 have ⟨e25,he25,h⟩ := bs h
 have hJp45 : ∀ (p45 : Bool × List Qb) (v46 : Value) a w,(.inl p45) = e25 → St M w0 201 [(20,tv v46),(19,tb p45.1),(11,ti (t58s.length : Int))] [own Qj 43 p45.2 v46,glo] a w → K22 a w := by
  intro p45 v46 a w he H
  subst he
  simp only at h
  refine k22 _ _ ?_
  refine wp_seq_k (fun _ k48 => ?_)
  refine sr mx [] H (fun _ => .q 1 rfl<|.q 0 rfl<|.g rfl rfl bq0 (fun _ => Qw z2)<|.gu [0] rfl rfl rfl bq1 (fun hc => Qj6 ud31 (.cond z0 hc))<|.g rfl rfl bq2 (fun hc => Q4 (.cond z0 hc) .k)<|.o (Qao z3 (fun hp => (.cond z0 (beqF hp))))<|.n) fun _ a w H => ?_
  have H := H.to [5,6,8] [_,_,_] [_,_] rfl rfl
  refine wi H h (fun b103 h => ?_) (fun b103 h => ?_)
  ·refine sr mx [] H (fun _ => .o (Qa .k)<|.n) fun _ a w H => ?_
   have H := H.to [0,2] [_,_] [_,_] rfl rfl
   refine wp_ret ?_
   obtain rfl := sj h
   exact rt undef [] hpl H (.tmp z0 .nil)
  refine wp_skip (k48 _ _ ?_)
  refine wp_seq_k (fun K51 k51 => ?_)
  refine sr mx [] H (fun _ => .o (Qa .k)<|.n) fun _ a w H => ?_
  have H := H.to [0,2,3] [_,_,_] [_,_] rfl rfl
  replace H : St _ _ _ [_,_,_] [_] _ _ := (H.shareO 1 rfl).pick [0,1,3]
  have ⟨e54,he54,h⟩ := bs h
  have hJp88 : ∀ (p88 : Unit) a w,(.inl p88) = e54 → St M w0 201 [] [glo] a w → K51 a w := by
   intro p88 a w he H
   subst he
   simp only at h
   refine k51 _ _ ?_
   have ⟨t200,ht200,h⟩ := bs h
   refine sr mx [] H (fun _ => .u [0] rfl rfl ((Qh Qsp (Qkk ht200) (.nil)).glo)<|.o (Qa z0)<|.n) fun _ a w H => ?_
   have H := H.to [1] [_] [_] rfl rfl
   refine wp_ret ?_
   obtain rfl := sj h
   exact rt undef [] hpl H (.tmp z0 .nil)
  have hJp89 : ∀ (p89 : Bool) a w,(.inr p89) = e54 → St M w0 201 [(8,tb p89)] [glo] a w → Ret Tryz.prog Tryz.f8 M0 [glo] w0 (fun _ => []) (fun _ => tb r) .ret a w := by
   intro p89 a w he H
   subst he
   simp only at h
   obtain rfl := sj h
   exact rt undef [] hpl H (.tmp z0 .nil)
  refine wp_block ?_
  refine QZ _ (fun (s53 : Int) a w => St M w0 201 [(20,tsl Qj p45.2),(22,ti s53),(11,ti (t58s.length : Int))] [glo] a w) _ _ he54 (H.pick [0,1,2]) ?_
  clear h
  intro s53 o a w K91 hI h ho k91
  have H := hI
  clear hI
  refine wp_seq_k (fun _ k92 => ?_)
  refine sr mx [] H (fun _ => .q 1 rfl<|.q 1 rfl<|.o (QN ud31 z0)<|.o (QU z2 z0)<|.n) fun _ a w H => ?_
  have H := H.to [3,4,5,6] [_,_,_,_] [_] rfl rfl
  refine wi H h (fun b102 h => ?_) (fun b102 h => ?_)
  ·refine wp_skip (k92 _ _ ?_)
   refine wp_seq_k (fun _ k94 => ?_)
   refine wp_block ?_
   refine sr mx [] H (fun _ => .o (Qa .k)<|.n) fun _ a w H => ?_
   replace H : St _ _ _ [_,_,_,_] [_,_] _ _ := (H.pick [0,2,3,4]).nil (Qj) 43
   refine wp_seq_k (fun _ k97 => ?_)
   have ⟨t185,ht185,h⟩ := bs h
   have ⟨u186,hu186,h⟩ := bs h
   have ⟨t190,ht190,h⟩ := bs h
   have ⟨u191,hu191,h⟩ := bs h
   refine wr mx [v1 4 (fun v0 => own Qj 43 (([] : List Qb) ++ t185) v0),v1 9 (fun v0 => own Qj 43 ((([] : List Qb) ++ t185) ++ t190) v0)] H (fun _ => .q 0 rfl<|.q 2 rfl<|.q 4 rfl<|.o (QgU ud31 QaE z1 (.no _) (.op z0) ht185)<|.e [] [0] [2] rfl rfl rfl rfl (Qaf (R := Qj) ud31 QaE (leb rfl) z3 z0 hu186)<|.q 6 rfl<|.q 8 rfl<|.o (QV z0 .k)<|.o (QgU ud31 QaE z2 (.op z0) (.no _) ht190)<|.e [] [2] [3] rfl rfl rfl rfl (Qaf (R := Qj) ud31 QaE (leb rfl) z4 z0 hu191)<|.ud (f := fun v => tv v) 9 rfl [] rfl rfl (Qa z0)<|.n) fun _ a w H => ?_
   have H := H.to [9,10,11,12,13] [_,_,_,_,_] [_,_] rfl rfl
   refine k97 _ _ ?_
   refine wp_seq_k (fun _ k98 => ?_)
   replace H : St _ _ _ [_,_,_,_] [_] _ _ := ((H.selA [1,0] rfl).shareO 1 rfl).pick [0,3,4,5]
   have ⟨t195,ht195,h⟩ := bs h
   refine wr mx [] H (fun _ => .q 3 rfl<|.q 1 rfl<|.u [0] rfl rfl ((Qh Qp1 (QhD ht195) (.cons (.of z1)<|.cons (.of z0)<|.nil)).glo)<|.q 0 rfl<|.o (QM z0 rfl)<|.o (QM z1 rfl)<|.o (Qa z1)<|.o (Qa z1)<|.n) fun _ a w H => ?_
   have H := H.to [7,9,10,11] [_,_,_,_] [_] rfl rfl
   refine k98 _ _ ?_
   refine sr mx [] H (fun _ => .q 0 rfl<|.o (Qam z0 .k)<|.n) fun _ a w H => ?_
   have H := H.to [1,3,4,5] [_,_,_,_] [_] rfl rfl
   refine wi H h (fun b101 h => ?_) (fun b101 h => ?_)
   ·refine sr mx [] H (fun _ => .o (Qa .k)<|.n) fun _ a w H => ?_
    have H := H.to [0] [_] [_] rfl rfl
    refine wp_ret ?_
    exact hJp89 _ _ _ (ho _ (sj h).symm) (H.pick [0])
   refine wp_skip (k94 _ _ ?_)
   refine wr mx [] H (fun _ => .q 2 rfl<|.o (QV z0 .k)<|.o (Qa z0)<|.n) fun _ a w H => ?_
   have H := H.to [2,4,5] [_,_,_] [_] rfl rfl
   exact k91 _ _ _ (sj h).symm (H.pick [1,0,2])
  refine wp_exit ?_
  exact hJp88 _ _ _ (ho _ (sj h).symm) (H.pick [])
 have hJp47 : ∀ (p47 : Bool) a w,(.inr p47) = e25 → St M w0 201 [(8,tb p47)] [glo] a w → Ret Tryz.prog Tryz.f8 M0 [glo] w0 (fun _ => []) (fun _ => tb r) .ret a w := by
  intro p47 a w he H
  subst he
  simp only at h
  obtain rfl := sj h
  exact rt undef [] hpl H (.tmp z0 .nil)
 refine wp_block ?_
 refine QZ _ (fun (s24 : Int × Bool × List Qb) a w => ∃ v35 : Value,St M w0 201 [(21,ti s24.1),(20,tv v35),(19,tb s24.2.1),(17,tsl rI t79.1),(12,tsl Qj t65.1),(11,ti (t58s.length : Int)),(3,tsl rI other_)] [own Qj 43 s24.2.2 v35,glo] a w) _ _ he25 ⟨(.slice none 0 0),H.pick [0,1,2,3,4,5,6]⟩ ?_
 clear h
 intro s24 o a w K104 hI h ho k104
 obtain ⟨v35,H⟩ := hI
 refine wp_seq_k (fun _ k105 => ?_)
 refine sr mx [] H (fun _ => .q 0 rfl<|.q 4 rfl<|.o (QN ud22 z0)<|.o (QU z2 z0)<|.n) fun _ a w H => ?_
 have H := H.to [3,4,5,6,7,8,9,10] [_,_,_,_,_,_,_,_] [_,_] rfl rfl
 refine wi H h (fun b113 h => ?_) (fun b113 h => ?_)
 ·refine wp_skip (k105 _ _ ?_)
  refine wp_seq_k (fun _ k107 => ?_)
  refine wp_block ?_
  refine wp_seq_k (fun _ k108 => ?_)
  have ⟨t118,ht118,h⟩ := bs h
  have ⟨t124,ht124,h⟩ := bs h
  have ⟨t136,ht136,h⟩ := bs h
  have ⟨t141,ht141,h⟩ := bs h
  refine sr mx [] H (fun _ => .q 4 rfl<|.q 2 rfl<|.o (QG ud22 tok3 z1 z0 ht118)<|.o (Qr tok3 z0)<|.o (QU z0 .k)<|.q 0 rfl<|.g rfl rfl bq0 (fun _ => Qw z10)<|.g rfl rfl bq1 (fun _ => Qw z8)<|.g rfl rfl bq2 (fun hc => QG ud22 tok3 (.cond z1 hc) (.cond z0 hc) (Q9 ht124 hc))<|.g rfl rfl bq3 (fun hc => Qr tok3 (.cond z0 hc))<|.g rfl rfl bq4 (fun _ => Qw z15)<|.g rfl rfl bq5 (fun hc => QN ud31 (.cond z0 hc))<|.g rfl rfl bq6 (fun hc => QaY (.cond z2 hc) (.cond z0 hc))<|.o (Qao z7 (fun hp => (.cond z0 (beqF hp))))<|.q 0 rfl<|.g rfl rfl bq0 (fun _ => Qw z16)<|.g rfl rfl bq1 (fun hc => Qcf (.cond z0 hc) .k)<|.g rfl rfl bq2 (fun hc => Qw (.cond z0 hc))<|.g rfl rfl (.c 0 rfl) (fun _ => Qw z22)<|.g rfl rfl (.c 1 rfl) (fun _ => Qw z20)<|.g rfl rfl (.c 2 rfl) (fun hc => QG ud22 tok3 (.cond z1 hc) (.cond z0 hc) (Q9 ht136 hc))<|.g rfl rfl (.c 3 rfl) (fun hc => Qr tok3 (.cond z0 hc))<|.g rfl rfl (.c 4 rfl) (fun _ => Qw z26)<|.g rfl rfl (.c 5 rfl) (fun _ => Qw z24)<|.g rfl rfl (.c 6 rfl) (fun hc => Qdc (.cond z0 hc) .k)<|.g rfl rfl (.c 7 rfl) (fun hc => QG ud22 tok3 (.cond z2 hc) (.cond z0 hc) (Q9 ht141 hc))<|.g rfl rfl (.c 8 rfl) (fun hc => Qr tok3 (.cond z0 hc))<|.g rfl rfl (.c 9 rfl) (fun hc => Qd5 (.cond z5 hc) (.cond z0 hc))<|.g rfl rfl (.b 13 rfl) (fun hc => QY (.cond z10 hc) (fun hp => (.cond z0 (Qga hc (beqT hp)))))<|.o (Qao z14 (fun hp => (.cond z0 (beqF hp))))<|.n) fun _ a w H => ?_
  have H := H.to [29,31,32,33,34,35,36,37] [_,_,_,_,_,_,_,_] [_,_] rfl rfl
  refine wi H h (fun b112 h => ?_) (fun b112 h => ?_)
  ·refine sr mx [] H (fun _ => .o (Qa .k)<|.n) fun _ a w H => ?_
   have H := H.to [0,3] [_,_] [_,_] rfl rfl
   refine wp_ret ?_
   exact hJp47 _ _ _ (ho _ (sj h).symm) ((H.pick [0]).selA [1] rfl)
  refine wp_skip (k108 _ _ ?_)
  refine wp_seq_k (fun _ k111 => ?_)
  have ⟨t150,ht150,h⟩ := bs h
  have ⟨t152,ht152,h⟩ := bs h
  have ⟨u155,hu155,h⟩ := bs h
  refine wr mx [v1 9 (fun v0 => own Qj 43 (s24.2.2 ++ [t152]) v0)] H (fun _ => .q 2 rfl<|.q 6 rfl<|.q 6 rfl<|.q 4 rfl<|.o (QG ud22 tok3 z1 z0 ht150)<|.o (Qr tok3 z0)<|.o (QG ud31 QaE z4 z0 ht152)<|.o (Qr QaE z0)<|.o (QE (R := Qj) (us := [t152]) ud31 QaE (.cons z0<|.nil _) rfl (leb rfl))<|.e [] [0] [2] rfl rfl rfl rfl (Qaf (R := Qj) ud31 QaE (leb rfl) z8 z0 hu155)<|.ud (f := fun v => tv v) 9 rfl [] rfl rfl (Qa z0)<|.n) fun n21 a w H => ?_
  have H := H.to [9,10,12,13,14,15,16,17] [_,_,_,_,_,_,_,_] [_,_] rfl rfl
  refine k111 _ _ ?_
  have ⟨t161,ht161,h⟩ := bs h
  have ⟨t163,ht163,h⟩ := bs h
  have ⟨t167,ht167,h⟩ := bs h
  have ⟨t168,ht168,h⟩ := bs h
  refine wr mx [] H (fun _ => .q 3 rfl<|.q 0 rfl<|.g rfl rfl bq0 (fun _ => Qw z7)<|.g rfl rfl bq1 (fun _ => Qw z7)<|.g rfl rfl bq2 (fun _ => Qw z6)<|.g rfl rfl bq3 (fun hc => QG ud22 tok3 (.cond z1 hc) (.cond z0 hc) (Q9 ht161 hc))<|.g rfl rfl bq4 (fun hc => Qr tok3 (.cond z0 hc))<|.g rfl rfl bq5 (fun hc => QG ud31 QaE (.cond z4 hc) (.cond z0 hc) (Q9 ht163 hc))<|.g rfl rfl bq6 (fun hc => Qr QaE (.cond z0 hc))<|.g rfl rfl bq7 (fun _ => Qw z16)<|.g rfl rfl bq8 (fun _ => Qw z16)<|.g rfl rfl bq9 (fun hc => Qh call19 (Qpi (Q9 ht167 hc)) (.cons (.of (.cond z1 hc))<|.cons (.of (.cond z0 hc))<|.nil))<|.g rfl rfl (.b 10 rfl) (fun hc => Qh QpZ (QhE (Q9 ht168 hc)) (.cons (.of (.cond z3 hc))<|.cons (.of (.cond z0 hc))<|.nil))<|.o (QY z11 (fun hp => (.cond z0 (beqT hp))))<|.o (Qa z0)<|.n) fun _ a w H => ?_
  have H := H.to [14,15,16,17,18,19,20,21] [_,_,_,_,_,_,_,_] [_,_] rfl rfl
  refine k107 _ _ ?_
  refine wr mx [] H (fun _ => .q 3 rfl<|.o (QV z0 .k)<|.o (Qa z0)<|.n) fun _ a w H => ?_
  have H := H.to [2,3,4,5,6,7,8,9] [_,_,_,_,_,_,_,_] [_,_] rfl rfl
  exact k104 _ _ _ (sj h).symm ⟨(n21 9),(H.pick [0,3,1,4,5,6,7]).selA [1,0] rfl⟩
 refine wp_exit ?_
 exact hJp45 _ v35 _ _ (ho _ (sj h).symm) (H.pick [2,3,6])

end Go.Proofs.YtcdccjagknlmpaaGreatDoor
