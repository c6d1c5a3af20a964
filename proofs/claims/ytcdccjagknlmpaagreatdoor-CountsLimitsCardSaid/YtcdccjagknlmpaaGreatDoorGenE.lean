/- Go functions as Lean functions, and the proofs that they compute them, written by a program. No condition. -/
import Derived.Test.YtcdccjagknlmpaaGreatDoorGenD
namespace Go.Proofs.YtcdccjagknlmpaaGreatDoor
open Go.Sim
set_option maxRecDepth 100000
set_option maxHeartbeats 4000000

/- diorama/typing.at -/
noncomputable def QcA (x_ : Qh) (kind_ : Int) (field_ : Int) : Option (Qc × Bool) := (opt ((((decide (kind_ < (0:Int))) || (decide (kind_ ≥ ((x_).Kinds.length : Int)))) || (decide (field_ < (0:Int)))) == false) (idx (x_).Kinds kind_) default).bind fun t26 => (if ((((decide (kind_ < (0:Int))) || (decide (kind_ ≥ ((x_).Kinds.length : Int)))) || (decide (field_ < (0:Int)))) || (decide (field_ ≥ ((t26).Fields.length : Int)))) = true then (some (zz0,false)) else (idx (x_).Kinds kind_).bind fun t36 => (idx (t36).Fields field_).bind fun t40 => (some (t40,true)))
theorem QgP {x_ : Qh} {kind_ : Int} {field_ : Int} {r : Qc × Bool} (h : QcA x_ kind_ field_ = some r) : FnOk Tryz.prog 110 [Qg.ty x_,ti kind_,ti field_] [] (fun _ => []) (fun _ => ttup [Qb.ty r.1,tb r.2]) := by
 unfold QcA at h
 refine fe Tryz.func110 Tryz.ntmps110 fun M0 M w0 a hpl H => ?_
 replace H : St M w0 42 [(0,Qg.ty x_),(1,ti kind_),(2,ti field_)] [] a w0 := H
 refine sr mx [v1 1 (fun v0 => box (Qb.cs zz0) v0)] H (fun _ => .o (QV (R := Qg) (u := x_) z0)<|.m [] [0] rfl rfl rfl (Q0 (R := Qb) (a := zz0) QI Qcy)<|.o (Qa .k)<|.n) fun n0 a w H => ?_
 have H := H.to [0,1,4,5] [_,_,_,_] [_] rfl rfl
 refine wp_seq_k (fun _ k3 => ?_)
 have ⟨t26,ht26,h⟩ := bs h
 refine sr mx [] H (fun _ => .q 2 rfl<|.o (QG z0 .k)<|.q 0 rfl<|.g rfl rfl bq0 (fun _ => Qq z5)<|.g rfl rfl bq1 (fun _ => Qe Q9 z4)<|.g rfl rfl bq2 (fun hc => Qd (u := (x_).Kinds) QaF (.cond z0 hc) rfl)<|.g rfl rfl bq3 (fun hc => QE ud23 (.cond z0 hc))<|.g rfl rfl bq4 (fun hc => QaJ (.cond z3 hc) (.cond z0 hc))<|.o (Q6 z5 (fun hp => (.cond z0 (beqF hp))))<|.q 0 rfl<|.g rfl rfl bq0 (fun _ => Qq z13)<|.g rfl rfl bq1 (fun hc => QG (.cond z0 hc) .k)<|.o (Q6 z2 (fun hp => (.cond z0 (beqF hp))))<|.q 0 rfl<|.g rfl rfl bq0 (fun _ => Qq z17)<|.g rfl rfl bq1 (fun _ => Qe Q9 z15)<|.g rfl rfl bq2 (fun hc => Qd (u := (x_).Kinds) QaF (.cond z0 hc) rfl)<|.g rfl rfl bq3 (fun _ => Qq z19)<|.g rfl rfl bq4 (fun hc => Qr ud23 QZ (.cond z1 hc) (.cond z0 hc) (Qaj ht26 hc))<|.g rfl rfl bq5 (fun hc => Qe Qaf (.cond z0 hc))<|.g rfl rfl bq6 (fun hc => Qd (u := (t26).Fields) QaK (.cond z0 hc) rfl)<|.g rfl rfl bq7 (fun hc => QE ud53 (.cond z0 hc))<|.g rfl rfl bq8 (fun hc => QaJ (.cond z7 hc) (.cond z0 hc))<|.o (Q6 z9 (fun hp => (.cond z0 (beqF hp))))<|.n) fun _ a w H => ?_
 have H := H.to [23,24,25,26,27] [_,_,_,_,_] [_] rfl rfl
 refine wi H h (fun b7 h => ?_) (fun b7 h => ?_)
 ·refine sr mx [v0 (box (Qb.cs zz0) (n0 1))] H (fun _ => .p (T := Qb.ty zz0) rfl (QY ud61 pl61 zv61 zc61 (.nil _))<|.e [] [0] [1] rfl rfl rfl rfl (QS (R := Qb) (a := zz0) QI z3 z0 (leb rfl))<|.o (Qa .k)<|.n) fun _ a w H => ?_
  have H := H.to [1,4] [_,_] [_] rfl rfl
  refine wp_ret ?_
  obtain rfl := sj h
  exact rt undef [] hpl H (.cell (R := Qb) (u := zz0) QI z1 0 rfl rfl (.tmp z0 .nil))
 refine wp_skip (k3 _ _ ?_)
 have ⟨t36,ht36,h⟩ := bs h
 have ⟨t40,ht40,h⟩ := bs h
 refine sr mx [v0 (box (Qb.cs t40) (n0 1))] H (fun _ => .o (Qe Q9 z1)<|.o (Qd (u := (x_).Kinds) QaF z0 rfl)<|.q 5 rfl<|.o (Qr ud23 QZ z1 z0 ht36)<|.o (Qe Qaf z0)<|.o (Qd (u := (t36).Fields) QaK z0 rfl)<|.q 10 rfl<|.o (Qr ud53 QI z1 z0 ht40)<|.o (Qm QI z0)<|.e [] [0] [1] rfl rfl rfl rfl (QS (R := Qb) (a := t40) QI z11 z0 (leb rfl))<|.o (Qa .k)<|.n) fun _ a w H => ?_
 have H := H.to [9,12] [_,_] [_] rfl rfl
 refine wp_ret ?_
 obtain rfl := sj h
 exact rt undef [] hpl H (.cell (R := Qb) (u := t40) QI z1 0 rfl rfl (.tmp z0 .nil))

/- diorama/typing.rule -/
noncomputable def Qet (x_ : Qh) (i_ : Int) : Option (Int) := (idx (x_).Rules i_).bind fun t17 => (sub (x_).Rules (0:Int) i_).bind fun t22 => (QaM t22 (fun x0 => Qei x0 t17)).bind fun t24 => (QbF x_ (t17).Kind).bind fun t28 => (QF (fun (s9 : Int × Bool × Bool) => ((if (decide (s9.1 < ([(t17).A,(t17).B].length : Int))) = true then ((idx [(t17).A,(t17).B] s9.1).bind fun t39 => (if ((t39 == ([] : Str)) || (decide (t28 < (0:Int)))) = true then (some (s9.2.1,s9.2.2)) else (idx (x_).Kinds t28).bind fun t53 => (Qbt t53 t39).bind fun t56 => (QcA x_ t28 t56).bind fun t57 => (some ((s9.2.1 || (!t57.2)),(s9.2.2 || (((t57.1).Kind != (2:Int)) && ((t57.1).Kind != (4:Int)))))))).bind fun (p55 : Bool × Bool) => (some (.inl ((IntKind.i64.wrap (s9.1 + (1:Int))),p55.1,p55.2))) else (some (.inr (s9.2.1,s9.2.2)))) : Option ((Int × Bool × Bool) ⊕ ((Bool × Bool))))) ((0:Int),(decide (t28 < (0:Int))),false)).bind fun (p49 : (Bool × Bool)) => (Qax [(Qv.mk t24 (7:Int)),(Qv.mk p49.1 (12:Int)),(Qv.mk p49.2 (13:Int)),(Qv.mk ((t17).A == (t17).B) (1:Int))]).bind fun t90 => (some t90)
theorem QoJ {x_ : Qh} {i_ : Int} {r : Int} (h : Qet x_ i_ = some r) : FnOk Tryz.prog 69 [Qg.ty x_,ti i_] [] (fun _ => []) (fun _ => ti r) := by
 unfold Qet at h
 refine fe Tryz.func69 Tryz.ntmps69 fun M0 M w0 a hpl H => ?_
 replace H : St M w0 91 [(0,Qg.ty x_),(1,ti i_)] [] a w0 := H
 refine sr mx [] H (fun _ => .o (QV (R := Qg) (u := x_) z0)<|.o (Qa .k)<|.n) fun _ a w H => ?_
 have H := H.to [0,3] [_,_] [] rfl rfl
 have ⟨t17,ht17,h⟩ := bs h
 refine sr mx [v1 5 (fun v0 => box (Qt.cs zz3) v0),v1 5 (fun v0 => box (Qt.cs t17) v0)] H (fun _ => .o (Qe QbH z0)<|.o (Qd (u := (x_).Rules) Qfp z0 rfl)<|.q 3 rfl<|.o (Qr ud25 QaU z1 z0 ht17)<|.o (Qm QaU z0)<|.m [] [0] rfl rfl rfl (Q0 (R := Qt) (a := zz3) QaU QmS)<|.e [] [0] [1] rfl rfl rfl rfl (QS (R := Qt) (a := t17) QaU z0 z1 (leb rfl))<|.n) fun _ a w H => ?_
 replace H : St _ _ _ [_,_,_] [] _ _ := (((H.pick [5,6,7]).shareB 0 rfl).add 0 rfl (fun _ _ _ h => h.2)).pick [0,3,4]
 have ⟨t22,ht22,h⟩ := bs h
 have ⟨t24,ht24,h⟩ := bs h
 refine sr mx [] H (fun _ => .o (Qe QbH z1)<|.o (Qd (u := (x_).Rules) Qfp z0 rfl)<|.q 4 rfl<|.o (Qki ud25 QaU z1 (.no _) (.op z0) ht22)<|.o (QdX (.cons z4<|.nil))<|.o (Qf QqP (QfI ht24) (.cons (.of z1)<|.cons (.of (Fct.weak z0 (Qb7 QtX (fun _ _ hq => Qnq hq))))<|.nil))<|.o (Qa z0)<|.n) fun _ a w H => ?_
 have H := H.to [6,7,8] [_,_,_] [] rfl rfl
 have ⟨t28,ht28,h⟩ := bs h
 refine sr mx [] H (fun _ => .o (Qm Qar z2)<|.o (Qe Qkc z2)<|.o (Qd (u := (t17).Kind) tok9 z0 rfl)<|.o (Qf Qla (Qeh ht28) (.cons (.of z2)<|.cons (.of z0)<|.nil))<|.o (Qa z0)<|.n) fun _ a w H => ?_
 have H := H.to [4,5,6,7] [_,_,_,_] [] rfl rfl
 refine sr mx [] H (fun _ => .q 0 rfl<|.o (QG z0 .k)<|.o (Qa z0)<|.o (Qa .k)<|.n) fun _ a w H => ?_
 have H := H.to [2,3,4,5,6,7] [_,_,_,_,_,_] [] rfl rfl
 refine wp_seq_k (fun K7 k7 => ?_)
 refine sr mx [] H (fun _ => .o (Qe QeW z4)<|.o (Qd (u := (t17).A) tok9 z0 rfl)<|.o (Qe QeX z6)<|.o (Qd (u := (t17).B) tok9 z0 rfl)<|.o (Qy (R := rS) (us := [(t17).A,(t17).B]) ud32 tok9 (.cons z2<|.cons z0<|.nil _) rfl (leb rfl))<|.o (QE ud32 z0)<|.o (Qq .k)<|.n) fun _ a w H => ?_
 have H := H.to [4,5,6,7,8,9,10,11,12] [_,_,_,_,_,_,_,_,_] [] rfl rfl
 have ⟨e10,he10,h⟩ := bs h
 have hJp49 : ∀ (p49 : Bool × Bool) a w,p49 = e10 → St M w0 91 [(8,tb p49.1),(9,tb p49.2),(6,tb t24),(5,tptr (Qt.cs t17))] [] a w → K7 a w := by
  intro p49 a w he H
  subst he
  refine k7 _ _ ?_
  have ⟨t90,ht90,h⟩ := bs h
  refine sr mx [] H (fun _ => .q 2 rfl<|.p (T := QX.ty (Qv.mk t24 (7:Int))) rfl (QY QeK QeJ QeI Qd7 (.cons (R := Qa7) (u := t24) rfl z0 (leb rfl)<|.cons (R := rI) (u := (7:Int)) rfl .k (leb rfl)<|.nil _))<|.q 2 rfl<|.p (T := QX.ty (Qv.mk p49.1 (12:Int))) rfl (QY QeK QeJ QeI Qd7 (.cons (R := Qa7) (u := p49.1) rfl z0 (leb rfl)<|.cons (R := rI) (u := (12:Int)) rfl .k (leb rfl)<|.nil _))<|.q 5 rfl<|.p (T := QX.ty (Qv.mk p49.2 (13:Int))) rfl (QY QeK QeJ QeI Qd7 (.cons (R := Qa7) (u := p49.2) rfl z0 (leb rfl)<|.cons (R := rI) (u := (13:Int)) rfl .k (leb rfl)<|.nil _))<|.o (Qe QeW z9)<|.o (Qd (u := (t17).A) tok9 z0 rfl)<|.o (Qe QeX z11)<|.o (Qd (u := (t17).B) tok9 z0 rfl)<|.o (Qa6 z2 z0)<|.p (T := QX.ty (Qv.mk ((t17).A == (t17).B) (1:Int))) rfl (QY QeK QeJ QeI Qd7 (.cons (R := Qa7) (u := ((t17).A == (t17).B)) rfl z0 (leb rfl)<|.cons (R := rI) (u := (1:Int)) rfl .k (leb rfl)<|.nil _))<|.o (Qy (R := QX) (us := [(Qv.mk t24 (7:Int)),(Qv.mk p49.1 (12:Int)),(Qv.mk p49.2 (13:Int)),(Qv.mk ((t17).A == (t17).B) (1:Int))]) Qhe Qen (.cons z10<|.cons z8<|.cons z6<|.cons z0<|.nil _) rfl (leb rfl))<|.o (Qf QgN (Qbh ht90) (.cons (.of z0)<|.nil))<|.o (Qa z0)<|.n) fun _ a w H => ?_
  have H := H.to [14] [_] [] rfl rfl
  refine wp_ret ?_
  obtain rfl := sj h
  exact rt undef [] hpl H (.tmp z0 .nil)
 refine wp_block ?_
 refine QR _ (fun (s9 : Int × Bool × Bool) a w => St M w0 91 [(35,tsl rS [(t17).A,(t17).B]),(36,ti ([(t17).A,(t17).B].length : Int)),(37,ti s9.1),(8,tb s9.2.1),(9,tb s9.2.2),(7,ti t28),(6,tb t24),(5,tptr (Qt.cs t17)),(2,tptr (Qg.cs x_))] [] a w) _ _ he10 (H.pick [0,1,2,3,4,5,6,7,8]) ?_
 clear h
 intro s9 o a w K51 hI h ho k51
 have H := hI
 clear hI
 refine sr mx [] H (fun _ => .o (QG z2 z1)<|.n) fun _ a w H => ?_
 have H := H.to [0,1,2,3,4,5,6,7,8,9] [_,_,_,_,_,_,_,_,_,_] [] rfl rfl
 refine wp_seq_k (fun _ k53 => ?_)
 refine wi H h (fun b70 h => ?_) (fun b70 h => ?_)
 ·refine wp_skip (k53 _ _ ?_)
  refine wp_seq_k (fun K54 k54 => ?_)
  have ⟨p55,hp55,h⟩ := bs h
  have hJp55 : ∀ a w,St M w0 91 [(35,tsl rS [(t17).A,(t17).B]),(36,ti ([(t17).A,(t17).B].length : Int)),(37,ti s9.1),(8,tb p55.1),(9,tb p55.2),(7,ti t28),(6,tb t24),(5,tptr (Qt.cs t17)),(2,tptr (Qg.cs x_))] [] a w → K54 a w := by
   intro a w H
   refine k54 _ _ ?_
   refine wr mx [] H (fun _ => .o (QQ z2 .k)<|.q 0 rfl<|.n) fun _ a w H => ?_
   have H := H.to [1,2,3,4,5,6,7,8,9] [_,_,_,_,_,_,_,_,_] [] rfl rfl
   exact k51 _ _ _ (sj h).symm (H.pick [1,2,0,3,4,5,6,7,8])
  replace h := hp55
  clear hp55
  refine wp_block ?_
  have ⟨t39,ht39,h⟩ := bs h
  refine sr mx [] H (fun _ => .o (Qr ud32 tok9 z1 z3 ht39)<|.o (Qm tok9 z0)<|.o (Qa z0)<|.n) fun _ a w H => ?_
  have H := H.to [2,4,5,6,7,8,9,10,11,12] [_,_,_,_,_,_,_,_,_,_] [] rfl rfl
  refine wp_seq_k (fun _ k64 => ?_)
  refine sr mx [] H (fun _ => .q 0 rfl<|.o (Qa6 z0 .k)<|.q 0 rfl<|.g rfl rfl bq0 (fun _ => Qq z9)<|.g rfl rfl bq1 (fun hc => QG (.cond z0 hc) .k)<|.o (Q6 z2 (fun hp => (.cond z0 (beqF hp))))<|.n) fun _ a w H => ?_
  have H := H.to [5,6,7,8,9,10,11,12,13,14,15] [_,_,_,_,_,_,_,_,_,_,_] [] rfl rfl
  refine wi H h (fun b69 h => ?_) (fun b69 h => ?_)
  ·refine wp_exit ?_
   obtain rfl := sj h
   exact hJp55 _ _ (H.pick [2,3,4,5,6,7,8,9,10])
  refine wp_skip (k64 _ _ ?_)
  have ⟨t53,ht53,h⟩ := bs h
  have ⟨t56,ht56,h⟩ := bs h
  have ⟨t57,ht57,h⟩ := bs h
  refine sr mx [v1 13 (fun v0 => box (Qb.cs zz0) v0),v1 13 (fun v0 => box (Qb.cs t57.1) v0)] H (fun _ => .o (Qm Qar z10)<|.q 8 rfl<|.o (Qe Q9 z12)<|.o (Qd (u := (x_).Kinds) QaF z0 rfl)<|.q 11 rfl<|.o (Qr ud23 QZ z1 z0 ht53)<|.o (Qm QZ z0)<|.q 8 rfl<|.o (Qf Qml (Qe9 ht56) (.cons (.of z1)<|.cons (.of z0)<|.nil))<|.o (Qf Qlc (QgP ht57) (.cons (.of z8)<|.cons (.of z7)<|.cons (.of z0)<|.nil))<|.q 0 rfl<|.o (QU z0 rfl)<|.o (QU z1 rfl)<|.m [] [0] rfl rfl rfl (Q0 (R := Qb) (a := zz0) QI Qcy)<|.e [] [0] [1] rfl rfl rfl rfl (QS (R := Qb) (a := t57.1) QI z0 z2 (leb rfl))<|.o (Qa z1)<|.n) fun _ a w H => ?_
  replace H : St _ _ _ [_,_,_,_,_,_,_,_,_,_,_] [] _ _ := (((H.pick [13,14,17,18,19,20,21,22,23,24,25]).shareB 0 rfl).add 0 rfl (fun _ _ _ h => h.2)).pick [0,3,4,5,6,7,8,9,10,11,12]
  refine sr mx [] H (fun _ => .q 5 rfl<|.q 0 rfl<|.g rfl rfl bq0 (fun _ => Qq z3)<|.g rfl rfl bq1 (fun hc => Qae (.cond z0 hc))<|.o (Q6 z2 (fun hp => (.cond z0 (beqF hp))))<|.o (Qa z0)<|.n) fun _ a w H => ?_
  have H := H.to [5,6,8,9,10,11,12,13,14,15] [_,_,_,_,_,_,_,_,_,_] [] rfl rfl
  refine wr mx [] H (fun _ => .q 5 rfl<|.q 0 rfl<|.g rfl rfl bq0 (fun _ => Qe Qao z3)<|.g rfl rfl bq1 (fun hc => Qd (u := (t57.1).Kind) tok3 (.cond z0 hc) rfl)<|.g rfl rfl bq2 (fun hc => Qau (.cond z0 hc) .k)<|.g rfl rfl bq3 (fun hc => Qq (.cond z0 hc))<|.g rfl rfl (.c 0 rfl) (fun _ => Qe Qao z7)<|.g rfl rfl (.c 1 rfl) (fun hc => Qd (u := (t57.1).Kind) tok3 (.cond z0 hc) rfl)<|.g rfl rfl (.c 2 rfl) (fun hc => Qau (.cond z0 hc) .k)<|.g rfl rfl bq7 (fun hc => QW (.cond z3 hc) (fun hp => (.cond z0 (Qc8 hc (beqT hp)))))<|.o (Q6 z8 (fun hp => (.cond z0 (beqF hp))))<|.o (Qa z0)<|.n) fun _ a w H => ?_
  have H := H.to [11,12,14,15,16,17,18,19,20] [_,_,_,_,_,_,_,_,_] [] rfl rfl
  obtain rfl := sj h
  exact hJp55 _ _ (H.pick [2,3,4,1,0,5,6,7,8])
 refine wp_exit ?_
 exact hJp49 _ _ _ (ho _ (sj h).symm) (H.pick [4,5,7,8])

/- diorama/typing.checks$1 -/
noncomputable def QbT (s_ : QP) : Option (Int) := (Qax [(Qv.mk (decide ((s_).field > (0:Int))) (13:Int))]).bind fun t8 => (some t8)
theorem Qmt {s_ : QP} {r : Int} (h : QbT s_ = some r) : FnOk Tryz.prog 207 [Qaa.ty s_] [] (fun _ => []) (fun _ => ti r) := by
 unfold QbT at h
 refine fe Tryz.func207 Tryz.ntmps207 fun M0 M w0 a hpl H => ?_
 replace H : St M w0 9 [(0,Qaa.ty s_)] [] a w0 := H
 refine sr mx [] H (fun _ => .o (QV (R := Qaa) (u := s_) z0)<|.o (Qa .k)<|.n) fun _ a w H => ?_
 have H := H.to [0] [_] [] rfl rfl
 have ⟨t8,ht8,h⟩ := bs h
 refine sr mx [] H (fun _ => .o (Qe QlD z0)<|.o (Qd (u := (s_).field) tok3 z0 rfl)<|.o (Qa0 z0 .k)<|.p (T := QX.ty (Qv.mk (decide ((s_).field > (0:Int))) (13:Int))) rfl (QY QeK QeJ QeI Qd7 (.cons (R := Qa7) (u := (decide ((s_).field > (0:Int)))) rfl z0 (leb rfl)<|.cons (R := rI) (u := (13:Int)) rfl .k (leb rfl)<|.nil _))<|.o (Qy (R := QX) (us := [(Qv.mk (decide ((s_).field > (0:Int))) (13:Int))]) Qhe Qen (.cons z0<|.nil _) rfl (leb rfl))<|.o (Qf QgN (Qbh ht8) (.cons (.of z0)<|.nil))<|.o (Qa z0)<|.n) fun _ a w H => ?_
 have H := H.to [6] [_] [] rfl rfl
 refine wp_ret ?_
 obtain rfl := sj h
 exact rt undef [] hpl H (.tmp z0 .nil)

/- diorama/typing.Up -/
noncomputable def QcW (self : Qh → Int → Int → Option (Int)) (x_ : Qh) (kind_ : Int) (field_ : Int) : Option (Int) := (QcA x_ kind_ field_).bind fun t17 => (if (!t17.2) = true then (some (-1:Int)) else (if (((t17.1).Kind == (7:Int)) || ((t17.1).Kind == (8:Int))) = true then (idx (x_).Kinds kind_).bind fun t35 => (Qbt t35 (t17.1).Up).bind fun t39 => (QcA x_ kind_ t39).bind fun t44 => (if ((t44.2 && (decide (t39 < field_))) && ((t44.1).Kind == (1:Int))) = true then (self x_ kind_ t39).bind fun t61 => (some t61) else (some (-1:Int))) else (if ((t17.1).Kind != (1:Int)) = true then (some (-1:Int)) else (QbF x_ (t17.1).Of).bind fun t69 => (if (decide (t69 < kind_)) = true then (some t69) else (some (-1:Int))))))
theorem Qpw {self : Qh → Int → Int → Option (Int)} (hself : ∀ (x_ : Qh) (kind_ : Int) (field_ : Int) (r : Int),self x_ kind_ field_ = some r → FnOk Tryz.prog 217 [Qg.ty x_,ti kind_,ti field_] [] (fun _ => []) (fun _ => ti r)) {x_ : Qh} {kind_ : Int} {field_ : Int} {r : Int} (h : QcW self x_ kind_ field_ = some r) : FnOk Tryz.prog 217 [Qg.ty x_,ti kind_,ti field_] [] (fun _ => []) (fun _ => ti r) := by
 unfold QcW at h
 refine fe Tryz.func217 Tryz.ntmps217 fun M0 M w0 a hpl H => ?_
 replace H : St M w0 74 [(0,Qg.ty x_),(1,ti kind_),(2,ti field_)] [] a w0 := H
 refine sr mx [] H (fun _ => .o (QV (R := Qg) (u := x_) z0)<|.o (Qa .k)<|.n) fun _ a w H => ?_
 have H := H.to [0,3,4] [_,_,_] [] rfl rfl
 have ⟨t17,ht17,h⟩ := bs h
 refine sr mx [v1 7 (fun v0 => box (Qb.cs zz0) v0),v1 7 (fun v0 => box (Qb.cs t17.1) v0)] H (fun _ => .o (Qm Qar z0)<|.q 2 rfl<|.q 4 rfl<|.o (Qf Qlc (QgP ht17) (.cons (.of z2)<|.cons (.of z1)<|.cons (.of z0)<|.nil))<|.q 0 rfl<|.o (QU z0 rfl)<|.o (QU z1 rfl)<|.m [] [0] rfl rfl rfl (Q0 (R := Qb) (a := zz0) QI Qcy)<|.e [] [0] [1] rfl rfl rfl rfl (QS (R := Qb) (a := t17.1) QI z0 z2 (leb rfl))<|.o (Qa z1)<|.n) fun _ a w H => ?_
 replace H : St _ _ _ [_,_,_,_,_] [] _ _ := (((H.pick [7,8,9,10,11]).shareB 0 rfl).add 0 rfl (fun _ _ _ h => h.2)).pick [0,3,4,5,6]
 refine wp_seq_k (fun _ k4 => ?_)
 refine wp_block ?_
 refine sr mx [] H (fun _ => .q 1 rfl<|.o (Qae z0)<|.o (Qa z0)<|.n) fun _ a w H => ?_
 have H := H.to [2,3,5,6,7] [_,_,_,_,_] [] rfl rfl
 refine wi H h (fun b26 h => ?_) (fun b26 h => ?_)
 ·refine sr mx [] H (fun _ => .o (Qa .k)<|.n) fun _ a w H => ?_
  have H := H.to [0] [_] [] rfl rfl
  refine wp_ret ?_
  obtain rfl := sj h
  exact rt undef [] hpl H (.tmp z0 .nil)
 refine sr mx [] H (fun _ => .o (Qe Qao z1)<|.o (Qd (u := (t17.1).Kind) tok3 z0 rfl)<|.o (QM z0 .k)<|.q 0 rfl<|.g rfl rfl bq0 (fun _ => Qe Qao z5)<|.g rfl rfl bq1 (fun hc => Qd (u := (t17.1).Kind) tok3 (.cond z0 hc) rfl)<|.g rfl rfl bq2 (fun hc => QM (.cond z0 hc) .k)<|.o (Q6 z3 (fun hp => (.cond z0 (beqF hp))))<|.o (Qa z0)<|.n) fun _ a w H => ?_
 have H := H.to [8,10,11,12,13] [_,_,_,_,_] [] rfl rfl
 refine wi H h (fun b25 h => ?_) (fun b25 h => ?_)
 ·have ⟨t35,ht35,h⟩ := bs h
  have ⟨t39,ht39,h⟩ := bs h
  refine sr mx [] H (fun _ => .o (Qe Q9 z2)<|.o (Qd (u := (x_).Kinds) QaF z0 rfl)<|.q 5 rfl<|.o (Qr ud23 QZ z1 z0 ht35)<|.o (Qm QZ z0)<|.o (Qe Qda z6)<|.o (Qd (u := (t17.1).Up) tok9 z0 rfl)<|.o (Qf Qml (Qe9 ht39) (.cons (.of z2)<|.cons (.of z0)<|.nil))<|.o (Qa z0)<|.n) fun _ a w H => ?_
  have H := H.to [8,11,12,13] [_,_,_,_] [] rfl rfl
  refine wp_seq_k (fun _ k9 => ?_)
  have ⟨t44,ht44,h⟩ := bs h
  refine sr mx [v1 7 (fun v0 => box (Qb.cs zz0) v0),v1 7 (fun v0 => box (Qb.cs t44.1) v0)] H (fun _ => .o (Qm Qar z1)<|.q 3 rfl<|.q 2 rfl<|.o (Qf Qlc (QgP ht44) (.cons (.of z2)<|.cons (.of z1)<|.cons (.of z0)<|.nil))<|.q 0 rfl<|.o (QU z0 rfl)<|.o (QU z1 rfl)<|.m [] [0] rfl rfl rfl (Q0 (R := Qb) (a := zz0) QI Qcy)<|.e [] [0] [1] rfl rfl rfl rfl (QS (R := Qb) (a := t44.1) QI z0 z2 (leb rfl))<|.o (Qa z1)<|.n) fun _ a w H => ?_
  replace H : St _ _ _ [_,_,_,_,_,_] [] _ _ := (((H.pick [7,8,9,10,11,12]).shareB 0 rfl).add 0 rfl (fun _ _ _ h => h.2)).pick [0,3,4,5,6,7]
  refine sr mx [] H (fun _ => .q 1 rfl<|.q 0 rfl<|.g rfl rfl bq0 (fun _ => Qq z4)<|.g rfl rfl bq1 (fun _ => Qq z8)<|.g rfl rfl bq2 (fun hc => QG (.cond z1 hc) (.cond z0 hc))<|.o (QW z3 (fun hp => (.cond z0 (beqT hp))))<|.q 0 rfl<|.g rfl rfl bq0 (fun _ => Qe Qao z7)<|.g rfl rfl bq1 (fun hc => Qd (u := (t44.1).Kind) tok3 (.cond z0 hc) rfl)<|.g rfl rfl bq2 (fun hc => QM (.cond z0 hc) .k)<|.o (QW z3 (fun hp => (.cond z0 (beqT hp))))<|.n) fun _ a w H => ?_
  have H := H.to [10,13,14,15] [_,_,_,_] [] rfl rfl
  refine wi H h (fun b15 h => ?_) (fun b15 h => ?_)
  ·have ⟨t61,ht61,h⟩ := bs h
   refine sr mx [] H (fun _ => .o (Qm Qar z2)<|.q 4 rfl<|.q 3 rfl<|.o (Qf QmV (hself _ _ _ _ ht61) (.cons (.of z2)<|.cons (.of z1)<|.cons (.of z0)<|.nil))<|.o (Qa z0)<|.n) fun _ a w H => ?_
   have H := H.to [4] [_] [] rfl rfl
   refine wp_ret ?_
   obtain rfl := sj h
   exact rt undef [] hpl H (.tmp z0 .nil)
  refine wp_skip (k9 _ _ ?_)
  refine sr mx [] H (fun _ => .o (Qa .k)<|.n) fun _ a w H => ?_
  have H := H.to [0] [_] [] rfl rfl
  refine wp_ret ?_
  obtain rfl := sj h
  exact rt undef [] hpl H (.tmp z0 .nil)
 refine sr mx [] H (fun _ => .o (Qe Qao z1)<|.o (Qd (u := (t17.1).Kind) tok3 z0 rfl)<|.o (Qau z0 .k)<|.o (Qa z0)<|.n) fun _ a w H => ?_
 have H := H.to [3,5,6,7] [_,_,_,_] [] rfl rfl
 refine wi H h (fun b24 h => ?_) (fun b24 h => ?_)
 ·refine sr mx [] H (fun _ => .o (Qa .k)<|.n) fun _ a w H => ?_
  have H := H.to [0] [_] [] rfl rfl
  refine wp_ret ?_
  obtain rfl := sj h
  exact rt undef [] hpl H (.tmp z0 .nil)
 refine wp_skip (k4 _ _ ?_)
 refine wp_seq_k (fun _ k18 => ?_)
 have ⟨t69,ht69,h⟩ := bs h
 refine sr mx [] H (fun _ => .o (Qm Qar z2)<|.o (Qe Qas z2)<|.o (Qd (u := (t17.1).Of) tok9 z0 rfl)<|.o (Qf Qla (Qeh ht69) (.cons (.of z2)<|.cons (.of z0)<|.nil))<|.o (Qa z0)<|.n) fun _ a w H => ?_
 have H := H.to [4,8] [_,_] [] rfl rfl
 refine sr mx [] H (fun _ => .q 0 rfl<|.q 2 rfl<|.o (QG z1 z0)<|.n) fun _ a w H => ?_
 have H := H.to [2,3] [_,_] [] rfl rfl
 refine wi H h (fun b23 h => ?_) (fun b23 h => ?_)
 ·refine sr mx [] H (fun _ => .q 1 rfl<|.o (Qa z0)<|.n) fun _ a w H => ?_
  have H := H.to [1] [_] [] rfl rfl
  refine wp_ret ?_
  obtain rfl := sj h
  exact rt undef [] hpl H (.tmp z0 .nil)
 refine wp_skip (k18 _ _ ?_)
 refine sr mx [] H (fun _ => .o (Qa .k)<|.n) fun _ a w H => ?_
 have H := H.to [0] [_] [] rfl rfl
 refine wp_ret ?_
 obtain rfl := sj h
 exact rt undef [] hpl H (.tmp z0 .nil)
noncomputable def Qjk : Nat → Qh → Int → Int → Option (Int)
 | 0 => fun _ _ _ => none
 | n + 1 => QcW (Qjk n)
theorem Qle : ∀ (n : Nat) (x_ : Qh) (kind_ : Int) (field_ : Int) (r : Int),Qjk n x_ kind_ field_ = some r → FnOk Tryz.prog 217 [Qg.ty x_,ti kind_,ti field_] [] (fun _ => []) (fun _ => ti r)
 | 0,_,_,_,r,h => by cases h
 | n + 1,x_,kind_,field_,r,h => Qpw (fun x_ kind_ field_ r h => Qle n x_ kind_ field_ r h) h
noncomputable def QfU (x_ : Qh) (kind_ : Int) (field_ : Int) : Option (Int) := Qjk (field_.natAbs + 2) x_ kind_ field_
theorem Qkq {x_ : Qh} {kind_ : Int} {field_ : Int} {r : Int} (h : QfU x_ kind_ field_ = some r) : FnOk Tryz.prog 217 [Qg.ty x_,ti kind_,ti field_] [] (fun _ => []) (fun _ => ti r) := Qle _ _ _ _ _ h

/- (diorama/typing.spot).lost -/
noncomputable def Qbr (s_ : QP) : Option (Bool) := (QfU (s_).x (s_).kind (s_).field).bind fun t9 => (some (decide (t9 < (0:Int))))
theorem Qgz {s_ : QP} {r : Bool} (h : Qbr s_ = some r) : FnOk Tryz.prog 204 [Qaa.ty s_] [] (fun _ => []) (fun _ => tb r) := by
 unfold Qbr at h
 refine fe Tryz.func204 Tryz.ntmps204 fun M0 M w0 a hpl H => ?_
 replace H : St M w0 11 [(0,Qaa.ty s_)] [] a w0 := H
 refine sr mx [] H (fun _ => .o (QV (R := Qaa) (u := s_) z0)<|.o (Qa .k)<|.n) fun _ a w H => ?_
 have H := H.to [0] [_] [] rfl rfl
 have ⟨t9,ht9,h⟩ := bs h
 refine sr mx [] H (fun _ => .o (Qe QfS z0)<|.o (Qd (u := (s_).x) Qar z0 rfl)<|.o (Qe QiU z2)<|.o (Qd (u := (s_).kind) tok3 z0 rfl)<|.o (Qe QlD z4)<|.o (Qd (u := (s_).field) tok3 z0 rfl)<|.o (Qf QmV (Qkq ht9) (.cons (.of z4)<|.cons (.of z2)<|.cons (.of z0)<|.nil))<|.o (QG z0 .k)<|.o (Qa z0)<|.n) fun _ a w H => ?_
 have H := H.to [8] [_] [] rfl rfl
 refine wp_ret ?_
 obtain rfl := sj h
 exact rt undef [] hpl H (.tmp z0 .nil)

/- diorama/typing.checks$2 -/
noncomputable def QbU (s_ : QP) : Option (Int) := (Qbr s_).bind fun t4 => (Qax [(Qv.mk t4 (12:Int))]).bind fun t7 => (some t7)
theorem Qmu {s_ : QP} {r : Int} (h : QbU s_ = some r) : FnOk Tryz.prog 208 [Qaa.ty s_] [] (fun _ => []) (fun _ => ti r) := by
 unfold QbU at h
 refine fe Tryz.func208 Tryz.ntmps208 fun M0 M w0 a hpl H => ?_
 replace H : St M w0 8 [(0,Qaa.ty s_)] [] a w0 := H
 refine sr mx [] H (fun _ => .o (QV (R := Qaa) (u := s_) z0)<|.o (Qa .k)<|.n) fun _ a w H => ?_
 have H := H.to [0] [_] [] rfl rfl
 have ⟨t4,ht4,h⟩ := bs h
 have ⟨t7,ht7,h⟩ := bs h
 refine sr mx [] H (fun _ => .o (Qm Qmk z0)<|.o (Qf QoG (Qgz ht4) (.cons (.of z0)<|.nil))<|.p (T := QX.ty (Qv.mk t4 (12:Int))) rfl (QY QeK QeJ QeI Qd7 (.cons (R := Qa7) (u := t4) rfl z0 (leb rfl)<|.cons (R := rI) (u := (12:Int)) rfl .k (leb rfl)<|.nil _))<|.o (Qy (R := QX) (us := [(Qv.mk t4 (12:Int))]) Qhe Qen (.cons z0<|.nil _) rfl (leb rfl))<|.o (Qf QgN (Qbh ht7) (.cons (.of z0)<|.nil))<|.o (Qa z0)<|.n) fun _ a w H => ?_
 have H := H.to [5] [_] [] rfl rfl
 refine wp_ret ?_
 obtain rfl := sj h
 exact rt undef [] hpl H (.tmp z0 .nil)

/- diorama/typing.checks$3 -/
noncomputable def QbV (s_ : QP) : Option (Int) := (idx ((s_).x).Kinds (s_).kind).bind fun t11 => (Qbt t11 ((s_).f).Of).bind fun t16 => (QcA (s_).x (s_).kind t16).bind fun t23 => (Qax [(Qv.mk ((((s_).f).Of != ([] : Str)) && (((decide (t16 < (0:Int))) || (decide (t16 ≥ (s_).field))) || ((t23.1).Kind != (4:Int)))) (12:Int))]).bind fun t47 => (some t47)
theorem Qmv {s_ : QP} {r : Int} (h : QbV s_ = some r) : FnOk Tryz.prog 209 [Qaa.ty s_] [] (fun _ => []) (fun _ => ti r) := by
 unfold QbV at h
 refine fe Tryz.func209 Tryz.ntmps209 fun M0 M w0 a hpl H => ?_
 replace H : St M w0 48 [(0,Qaa.ty s_)] [] a w0 := H
 refine sr mx [] H (fun _ => .o (QV (R := Qaa) (u := s_) z0)<|.o (Qa .k)<|.n) fun _ a w H => ?_
 have H := H.to [0] [_] [] rfl rfl
 have ⟨t11,ht11,h⟩ := bs h
 have ⟨t16,ht16,h⟩ := bs h
 refine sr mx [] H (fun _ => .o (Qe QfS z0)<|.o (Qe Q9 z0)<|.o (Qd (u := ((s_).x).Kinds) QaF z0 rfl)<|.o (Qe QiU z3)<|.o (Qd (u := (s_).kind) tok3 z0 rfl)<|.o (Qr ud23 QZ z2 z0 ht11)<|.o (Qm QZ z0)<|.o (Qe Qkl z7)<|.o (Qe Qas z0)<|.o (Qd (u := ((s_).f).Of) tok9 z0 rfl)<|.o (Qf Qml (Qe9 ht16) (.cons (.of z3)<|.cons (.of z0)<|.nil))<|.o (Qa z0)<|.n) fun _ a w H => ?_
 have H := H.to [11,12] [_,_] [] rfl rfl
 have ⟨t23,ht23,h⟩ := bs h
 refine sr mx [v1 9 (fun v0 => box (Qb.cs zz0) v0),v1 9 (fun v0 => box (Qb.cs t23.1) v0)] H (fun _ => .o (Qe QfS z1)<|.o (Qd (u := (s_).x) Qar z0 rfl)<|.o (Qe QiU z3)<|.o (Qd (u := (s_).kind) tok3 z0 rfl)<|.q 4 rfl<|.o (Qf Qlc (QgP ht23) (.cons (.of z3)<|.cons (.of z1)<|.cons (.of z0)<|.nil))<|.q 0 rfl<|.o (QU z0 rfl)<|.o (QU z1 rfl)<|.m [] [0] rfl rfl rfl (Q0 (R := Qb) (a := zz0) QI Qcy)<|.e [] [0] [1] rfl rfl rfl rfl (QS (R := Qb) (a := t23.1) QI z0 z2 (leb rfl))<|.o (Qa z1)<|.n) fun _ a w H => ?_
 replace H : St _ _ _ [_,_,_] [] _ _ := (((H.pick [9,11,12]).shareB 0 rfl).add 0 rfl (fun _ _ _ h => h.2)).pick [0,3,4]
 have ⟨t47,ht47,h⟩ := bs h
 refine sr mx [] H (fun _ => .o (Qe Qkl z2)<|.o (Qe Qas z0)<|.o (Qd (u := ((s_).f).Of) tok9 z0 rfl)<|.o (Qeb z0 .k)<|.q 0 rfl<|.g rfl rfl bq0 (fun _ => Qq z6)<|.g rfl rfl bq1 (fun hc => QG (.cond z0 hc) .k)<|.g rfl rfl bq2 (fun hc => Qq (.cond z0 hc))<|.g rfl rfl (.c 0 rfl) (fun _ => Qq z9)<|.g rfl rfl (.c 1 rfl) (fun _ => Qe QlD z11)<|.g rfl rfl (.c 2 rfl) (fun hc => Qd (u := (s_).field) tok3 (.cond z0 hc) rfl)<|.g rfl rfl (.c 3 rfl) (fun hc => QaJ (.cond z2 hc) (.cond z0 hc))<|.g rfl rfl bq7 (fun hc => Q6 (.cond z4 hc) (fun hp => (.cond z0 (Qc8 hc (beqF hp)))))<|.g rfl rfl bq8 (fun hc => Qq (.cond z0 hc))<|.g rfl rfl (.c 0 rfl) (fun _ => Qe Qao z14)<|.g rfl rfl (.c 1 rfl) (fun hc => Qd (u := (t23.1).Kind) tok3 (.cond z0 hc) rfl)<|.g rfl rfl (.c 2 rfl) (fun hc => Qau (.cond z0 hc) .k)<|.g rfl rfl (.b 12 rfl) (fun hc => Q6 (.cond z3 hc) (fun hp => (.cond z0 (Qc8 hc (beqF hp)))))<|.o (QW z13 (fun hp => (.cond z0 (beqT hp))))<|.p (T := QX.ty (Qv.mk ((((s_).f).Of != ([] : Str)) && (((decide (t16 < (0:Int))) || (decide (t16 ≥ (s_).field))) || ((t23.1).Kind != (4:Int)))) (12:Int))) rfl (QY QeK QeJ QeI Qd7 (.cons (R := Qa7) (u := ((((s_).f).Of != ([] : Str)) && (((decide (t16 < (0:Int))) || (decide (t16 ≥ (s_).field))) || ((t23.1).Kind != (4:Int))))) rfl z0 (leb rfl)<|.cons (R := rI) (u := (12:Int)) rfl .k (leb rfl)<|.nil _))<|.o (Qy (R := QX) (us := [(Qv.mk ((((s_).f).Of != ([] : Str)) && (((decide (t16 < (0:Int))) || (decide (t16 ≥ (s_).field))) || ((t23.1).Kind != (4:Int)))) (12:Int))]) Qhe Qen (.cons z0<|.nil _) rfl (leb rfl))<|.o (Qf QgN (Qbh ht47) (.cons (.of z0)<|.nil))<|.o (Qa z0)<|.n) fun _ a w H => ?_
 have H := H.to [22] [_] [] rfl rfl
 refine wp_ret ?_
 obtain rfl := sj h
 exact rt undef [] hpl H (.tmp z0 .nil)

/- diorama/typing.checks$4$1 -/
noncomputable def QcP (l_ : Qo) (c0_ : QP) : Option (Bool) := (some ((l_).Name == ((c0_).f).Of))
theorem QlL {l_ : Qo} {c0_ : QP} {r : Bool} (h : QcP l_ c0_ = some r) : FnOk Tryz.prog 211 [Qz.ty l_,tptr (Qaa.cs c0_)] [] (fun _ => []) (fun _ => tb r) := by
 unfold QcP at h
 refine fe Tryz.func211 Tryz.ntmps211 fun M0 M w0 a hpl H => ?_
 replace H : St M w0 10 [(0,Qz.ty l_),(1,tptr (Qaa.cs c0_))] [] a w0 := H
 refine sr mx [] H (fun _ => .o (QV (R := Qz) (u := l_) z0)<|.o (Qa .k)<|.n) fun _ a w H => ?_
 have H := H.to [0,3] [_,_] [] rfl rfl
 refine sr mx [] H (fun _ => .o (Qe Qgw z0)<|.o (Qd (u := (l_).Name) tok9 z0 rfl)<|.o (Qe Qkl z3)<|.o (Qe Qas z0)<|.o (Qd (u := ((c0_).f).Of) tok9 z0 rfl)<|.o (Qa6 z3 z0)<|.o (Qa z0)<|.n) fun _ a w H => ?_
 have H := H.to [6] [_] [] rfl rfl
 refine wp_ret ?_
 obtain rfl := sj h
 exact rt undef [] hpl H (.tmp z0 .nil)

/- diorama/typing.checks$4 -/
noncomputable def QbW (s_ : QP) : Option (Int) := (QaG ((s_).x).Lives (fun x0 => QcP x0 s_)).bind fun t8 => (Qax [(Qv.mk (!t8) (12:Int))]).bind fun t13 => (some t13)
theorem Qmw {s_ : QP} {r : Int} (h : QbW s_ = some r) : FnOk Tryz.prog 210 [Qaa.ty s_] [] (fun _ => []) (fun _ => ti r) := by
 unfold QbW at h
 refine fe Tryz.func210 Tryz.ntmps210 fun M0 M w0 a hpl H => ?_
 replace H : St M w0 14 [(0,Qaa.ty s_)] [] a w0 := H
 refine sr mx [] H (fun _ => .o (QV (R := Qaa) (u := s_) z0)<|.o (Qa .k)<|.n) fun _ a w H => ?_
 have H := H.to [0] [_] [] rfl rfl
 have ⟨t8,ht8,h⟩ := bs h
 refine sr mx [] H (fun _ => .o (Qe QfS z0)<|.o (Qe Qbc z0)<|.o (Qd (u := ((s_).x).Lives) QeH z0 rfl)<|.o (QdX (.cons z3<|.nil))<|.o (Qf Qqc (Qdz ht8) (.cons (.of z1)<|.cons (.of (Fct.weak z0 (Qb7 QuK (fun _ _ hq => QlL hq))))<|.nil))<|.o (Qa z0)<|.n) fun _ a w H => ?_
 have H := H.to [5] [_] [] rfl rfl
 have ⟨t13,ht13,h⟩ := bs h
 refine sr mx [] H (fun _ => .q 0 rfl<|.o (Qae z0)<|.p (T := QX.ty (Qv.mk (!t8) (12:Int))) rfl (QY QeK QeJ QeI Qd7 (.cons (R := Qa7) (u := (!t8)) rfl z0 (leb rfl)<|.cons (R := rI) (u := (12:Int)) rfl .k (leb rfl)<|.nil _))<|.o (Qy (R := QX) (us := [(Qv.mk (!t8) (12:Int))]) Qhe Qen (.cons z0<|.nil _) rfl (leb rfl))<|.o (Qf QgN (Qbh ht13) (.cons (.of z0)<|.nil))<|.o (Qa z0)<|.n) fun _ a w H => ?_
 have H := H.to [5] [_] [] rfl rfl
 refine wp_ret ?_
 obtain rfl := sj h
 exact rt undef [] hpl H (.tmp z0 .nil)

/- diorama/typing.shares -/
noncomputable def Qdp (x_ : Qh) (kind_ : Int) (f_ : Qc) : Option (Int × (List Int)) := (QbF x_ (f_).Of).bind fun t15 => (if (((f_).Kind != (6:Int)) || (decide (t15 ≤ kind_))) = true then (some ((-1:Int),([] : List Int))) else (idx (x_).Kinds t15).bind fun t27 => (QF (fun (s10 : Int × List Int) => ((if (decide (s10.1 < ((t27).Fields.length : Int))) = true then (idx (t27).Fields s10.1).bind fun t34 => (opt ((((t34).Kind == (7:Int)) && ((t34).Of == (f_).Name)) == true) (QfU x_ t15 s10.1) default).bind fun t50 => ((if ((((t34).Kind == (7:Int)) && ((t34).Of == (f_).Name)) && (t50 == kind_)) = true then (rm (s10.2.length + [s10.1].length)).bind fun _ => (some (s10.2 ++ [s10.1])) else (some s10.2))).bind fun (p45 : List Int) => (some (.inl ((IntKind.i64.wrap (s10.1 + (1:Int))),p45))) else (some (.inr s10.2))) : Option ((Int × List Int) ⊕ ((List Int))))) ((0:Int),([] : List Int))).bind fun (p35 : (List Int)) => (some (t15,p35)))
theorem Qnr {x_ : Qh} {kind_ : Int} {f_ : Qc} {r : Int × (List Int)} (h : Qdp x_ kind_ f_ = some r) : FnOk Tryz.prog 213 [Qg.ty x_,ti kind_,Qb.ty f_] [] (fun _ => []) (fun _ => ttup [ti r.1,tsl rI r.2]) := by
 unfold Qdp at h
 refine fe Tryz.func213 Tryz.ntmps213 fun M0 M w0 a hpl H => ?_
 replace H : St M w0 61 [(0,Qg.ty x_),(1,ti kind_),(2,Qb.ty f_)] [] a w0 := H
 refine sr mx [] H (fun _ => .o (QV (R := Qg) (u := x_) z0)<|.o (QV (R := Qb) (u := f_) z3)<|.o (Qa .k)<|.o (Qa (.nilsl (R := rI)))<|.n) fun _ a w H => ?_
 have H := H.to [0,1,5] [_,_,_] [] rfl rfl
 have ⟨t15,ht15,h⟩ := bs h
 refine sr mx [] H (fun _ => .o (Qm Qar z0)<|.o (Qe Qas z2)<|.o (Qd (u := (f_).Of) tok9 z0 rfl)<|.o (Qf Qla (Qeh ht15) (.cons (.of z2)<|.cons (.of z0)<|.nil))<|.o (Qa z0)<|.n) fun _ a w H => ?_
 have H := H.to [4,5,6,7] [_,_,_,_] [] rfl rfl
 refine wp_seq_k (fun _ k3 => ?_)
 refine sr mx [] H (fun _ => .o (Qe Qao z2)<|.o (Qd (u := (f_).Kind) tok3 z0 rfl)<|.o (Qau z0 .k)<|.q 0 rfl<|.g rfl rfl bq0 (fun _ => Qq z4)<|.g rfl rfl bq1 (fun _ => Qq z8)<|.g rfl rfl bq2 (fun hc => QcK (.cond z1 hc) (.cond z0 hc))<|.o (Q6 z3 (fun hp => (.cond z0 (beqF hp))))<|.n) fun _ a w H => ?_
 have H := H.to [7,8,9,10,11] [_,_,_,_,_] [] rfl rfl
 refine wi H h (fun b50 h => ?_) (fun b50 h => ?_)
 ·refine sr mx [] H (fun _ => .o (Qa .k)<|.o (Qa (.nilsl (R := rI)))<|.n) fun _ a w H => ?_
  have H := H.to [0,1] [_,_] [] rfl rfl
  refine wp_ret ?_
  obtain rfl := sj h
  exact rt undef [] hpl H (.tmp z0 (.tmp z1 .nil))
 refine wp_skip (k3 _ _ ?_)
 refine sr mx [] H (fun _ => .o (Qa .k)<|.n) fun _ a w H => ?_
 replace H : St _ _ _ [_,_,_,_,_] [_] _ _ := (H.pick [0,2,3,4,5]).nil (rI) 3
 refine wp_seq_k (fun K8 k8 => ?_)
 have ⟨t27,ht27,h⟩ := bs h
 refine sr mx [] H (fun _ => .o (Qe Q9 z2)<|.o (Qd (u := (x_).Kinds) QaF z0 rfl)<|.q 3 rfl<|.o (Qr ud23 QZ z1 z0 ht27)<|.o (Qe Qaf z0)<|.o (Qd (u := (t27).Fields) QaK z0 rfl)<|.o (QE ud53 z0)<|.o (Qq .k)<|.n) fun _ a w H => ?_
 have H := H.to [5,6,7,8,9,10,11,12] [_,_,_,_,_,_,_,_] [_] rfl rfl
 have ⟨e11,he11,h⟩ := bs h
 have hJp35 : ∀ (p35 : List Int) (v36 : Value) a w,p35 = e11 → St M w0 61 [(9,tv v36),(8,ti t15)] [own rI 3 p35 v36] a w → K8 a w := by
  intro p35 v36 a w he H
  subst he
  refine k8 _ _ ?_
  refine sr mx [] H (fun _ => .q 1 rfl<|.q 1 rfl<|.o (Qa z1)<|.o (Qa z1)<|.n) fun _ a w H => ?_
  have H := H.to [1,2,3,4] [_,_,_,_] [_] rfl rfl
  refine wp_ret ?_
  replace H : St _ _ _ [_,_] [] _ _ := (H.shareO 2 rfl).pick [0,2]
  obtain rfl := sj h
  exact rt undef [] hpl H (.tmp z1 (.tmp z0 .nil))
 refine wp_block ?_
 refine QR _ (fun (s10 : Int × List Int) a w => ∃ v23 : Value,St M w0 61 [(29,tsl Qb (t27).Fields),(30,ti ((t27).Fields.length : Int)),(31,ti s10.1),(9,tv v23),(8,ti t15),(3,tptr (Qg.cs x_)),(5,tptr (Qb.cs f_)),(1,ti kind_)] [own rI 3 s10.2 v23] a w) _ _ he11 ⟨(.slice none 0 0),H.pick [0,1,2,3,4,5,6,7]⟩ ?_
 clear h
 intro s10 o a w K38 hI h ho k38
 obtain ⟨v23,H⟩ := hI
 refine sr mx [] H (fun _ => .o (QG z2 z1)<|.n) fun _ a w H => ?_
 have H := H.to [0,1,2,3,4,5,6,7,8] [_,_,_,_,_,_,_,_,_] [_] rfl rfl
 refine wp_seq_k (fun _ k40 => ?_)
 refine wi H h (fun b49 h => ?_) (fun b49 h => ?_)
 ·refine wp_skip (k40 _ _ ?_)
  refine wp_seq_k (fun K41 k41 => ?_)
  refine wp_block ?_
  have ⟨t34,ht34,h⟩ := bs h
  refine sr mx [v1 3 (fun v0 => box (Qb.cs zz0) v0),v1 3 (fun v0 => box (Qb.cs t34) v0)] H (fun _ => .q 3 rfl<|.o (Qr ud53 QI z2 z4 ht34)<|.o (Qm QI z0)<|.m [] [1] rfl rfl rfl (Q0 (R := Qb) (a := zz0) QI Qcy)<|.o (Qa z3)<|.e [] [1] [2] rfl rfl rfl rfl (QS (R := Qb) (a := t34) QI z1 z2 (leb rfl))<|.n) fun _ a w H => ?_
  replace H : St _ _ _ [_,_,_,_,_,_,_,_,_,_] [_] _ _ := ((((H.pick [3,4,6,7,8,9,10,11,12,13]).selA [1,0] rfl).shareB 0 rfl).add 0 rfl (fun _ _ _ h => h.2)).pick [0,3,4,5,6,7,8,9,10,11]
  have ⟨t50,ht50,h⟩ := bs h
  refine sr mx [] H (fun _ => .o (Qe Qao z0)<|.o (Qd (u := (t34).Kind) tok3 z0 rfl)<|.o (QM z0 .k)<|.q 0 rfl<|.g rfl rfl bq0 (fun _ => Qe Qas z4)<|.g rfl rfl bq1 (fun hc => Qd (u := (t34).Of) tok9 (.cond z0 hc) rfl)<|.g rfl rfl bq2 (fun _ => Qe Qbd z14)<|.g rfl rfl bq3 (fun hc => Qd (u := (f_).Name) tok9 (.cond z0 hc) rfl)<|.g rfl rfl bq4 (fun hc => Qa6 (.cond z2 hc) (.cond z0 hc))<|.o (QW z5 (fun hp => (.cond z0 (beqT hp))))<|.q 0 rfl<|.g rfl rfl bq0 (fun _ => Qm Qar z18)<|.g rfl rfl bq1 (fun _ => Qq z18)<|.g rfl rfl bq2 (fun _ => Qq z14)<|.g rfl rfl bq3 (fun hc => Qf QmV (Qkq (Qaj ht50 hc)) (.cons (.of (.cond z2 hc))<|.cons (.of (.cond z1 hc))<|.cons (.of (.cond z0 hc))<|.nil))<|.g rfl rfl bq4 (fun _ => Qq z24)<|.g rfl rfl bq5 (fun hc => QM (.cond z1 hc) (.cond z0 hc))<|.o (QW z6 (fun hp => (.cond z0 (beqT hp))))<|.n) fun _ a w H => ?_
  have H := H.to [17,19,20,21,22,23,24,25,26,27] [_,_,_,_,_,_,_,_,_,_] [_] rfl rfl
  have ⟨p45,hp45,h⟩ := bs h
  have hJp45 : ∀ (v47 : Value) a w,St M w0 61 [(9,tv v47),(29,tsl Qb (t27).Fields),(30,ti ((t27).Fields.length : Int)),(31,ti s10.1),(8,ti t15),(3,tptr (Qg.cs x_)),(5,tptr (Qb.cs f_)),(1,ti kind_)] [own rI 3 p45 v47] a w → K41 a w := by
   intro v47 a w H
   refine k41 _ _ ?_
   refine wr mx [] H (fun _ => .o (QQ z3 .k)<|.q 0 rfl<|.n) fun _ a w H => ?_
   have H := H.to [1,2,3,4,5,6,7,8] [_,_,_,_,_,_,_,_] [_] rfl rfl
   exact k38 _ _ _ (sj h).symm ⟨v47,H.pick [2,3,0,1,4,5,6,7]⟩
  replace h := hp45
  clear hp45
  refine wi H h (fun b48 h => ?_) (fun b48 h => ?_)
  ·have ⟨u57,hu57,h⟩ := bs h
   refine wr mx [v1 3 (fun v0 => own rI 3 (s10.2 ++ [s10.1]) v0)] H (fun _ => .q 5 rfl<|.q 2 rfl<|.o (Qy (R := rI) (us := [s10.1]) ud22 tok3 (.cons z0<|.nil _) rfl (leb rfl))<|.e [] [0] [1] rfl rfl rfl rfl (Qag (R := rI) ud22 tok3 (leb rfl) z2 z0 hu57)<|.ud (f := fun v => tv v) 3 rfl [] rfl rfl (Qa z0)<|.n) fun n9 a w H => ?_
   have H := H.to [3,4,7,8,9,10,11,12,13] [_,_,_,_,_,_,_,_,_] [_] rfl rfl
   obtain rfl := sj h
   exact hJp45 (n9 3) _ _ (H.pick [1,2,3,4,5,6,7,8])
  refine wp_skip ?_
  obtain rfl := sj h
  exact hJp45 v23 _ _ (H.pick [5,2,3,4,6,7,8,9])
 refine wp_exit ?_
 exact hJp35 _ v23 _ _ (ho _ (sj h).symm) (H.pick [4,5])

/- diorama/typing.checks$5 -/
noncomputable def QbX (s_ : QP) : Option (Int) := (Qdp (s_).x (s_).kind (s_).f).bind fun t12 => (Qax [(Qv.mk (decide (t12.1 < (0:Int))) (12:Int)),(Qv.mk ((t12.2.length : Int) != (1:Int)) (11:Int))]).bind fun t23 => (some t23)
theorem Qmx {s_ : QP} {r : Int} (h : QbX s_ = some r) : FnOk Tryz.prog 212 [Qaa.ty s_] [] (fun _ => []) (fun _ => ti r) := by
 unfold QbX at h
 refine fe Tryz.func212 Tryz.ntmps212 fun M0 M w0 a hpl H => ?_
 replace H : St M w0 24 [(0,Qaa.ty s_)] [] a w0 := H
 refine sr mx [] H (fun _ => .o (QV (R := Qaa) (u := s_) z0)<|.o (Qa .k)<|.n) fun _ a w H => ?_
 have H := H.to [0] [_] [] rfl rfl
 have ⟨t12,ht12,h⟩ := bs h
 refine sr mx [] H (fun _ => .o (Qe QfS z0)<|.o (Qd (u := (s_).x) Qar z0 rfl)<|.o (Qe QiU z2)<|.o (Qd (u := (s_).kind) tok3 z0 rfl)<|.o (Qe Qkl z4)<|.o (Qd (u := (s_).f) QI z0 rfl)<|.o (Qf QuM (Qnr ht12) (.cons (.of z4)<|.cons (.of z2)<|.cons (.of z0)<|.nil))<|.q 0 rfl<|.o (QU z0 rfl)<|.o (QU z1 rfl)<|.o (Qa z1)<|.o (Qa z1)<|.n) fun _ a w H => ?_
 have H := H.to [10,11] [_,_] [] rfl rfl
 have ⟨t23,ht23,h⟩ := bs h
 refine sr mx [] H (fun _ => .q 0 rfl<|.o (QG z0 .k)<|.p (T := QX.ty (Qv.mk (decide (t12.1 < (0:Int))) (12:Int))) rfl (QY QeK QeJ QeI Qd7 (.cons (R := Qa7) (u := (decide (t12.1 < (0:Int)))) rfl z0 (leb rfl)<|.cons (R := rI) (u := (12:Int)) rfl .k (leb rfl)<|.nil _))<|.q 4 rfl<|.o (QE ud22 z0)<|.o (Qau z0 .k)<|.p (T := QX.ty (Qv.mk ((t12.2.length : Int) != (1:Int)) (11:Int))) rfl (QY QeK QeJ QeI Qd7 (.cons (R := Qa7) (u := ((t12.2.length : Int) != (1:Int))) rfl z0 (leb rfl)<|.cons (R := rI) (u := (11:Int)) rfl .k (leb rfl)<|.nil _))<|.o (Qy (R := QX) (us := [(Qv.mk (decide (t12.1 < (0:Int))) (12:Int)),(Qv.mk ((t12.2.length : Int) != (1:Int)) (11:Int))]) Qhe Qen (.cons z4<|.cons z0<|.nil _) rfl (leb rfl))<|.o (Qf QgN (Qbh ht23) (.cons (.of z0)<|.nil))<|.o (Qa z0)<|.n) fun _ a w H => ?_
 have H := H.to [9] [_] [] rfl rfl
 refine wp_ret ?_
 obtain rfl := sj h
 exact rt undef [] hpl H (.tmp z0 .nil)

/- (diorama/typing.spot).top -/
noncomputable def QbY (s_ : QP) : Option (Qc × Bool) := (QfU (s_).x (s_).kind (s_).field).bind fun t11 => (if (decide (t11 < (0:Int))) = true then (some (zz0,false)) else (idx ((s_).x).Kinds t11).bind fun t22 => (Qbt t22 ((s_).f).Of).bind fun t27 => (QcA (s_).x t11 t27).bind fun t28 => (some (t28.1,t28.2)))
theorem Qjy {s_ : QP} {r : Qc × Bool} (h : QbY s_ = some r) : FnOk Tryz.prog 215 [Qaa.ty s_] [] (fun _ => []) (fun _ => ttup [Qb.ty r.1,tb r.2]) := by
 unfold QbY at h
 refine fe Tryz.func215 Tryz.ntmps215 fun M0 M w0 a hpl H => ?_
 replace H : St M w0 31 [(0,Qaa.ty s_)] [] a w0 := H
 refine sr mx [v1 1 (fun v0 => box (Qb.cs zz0) v0)] H (fun _ => .o (QV (R := Qaa) (u := s_) z0)<|.m [] [0] rfl rfl rfl (Q0 (R := Qb) (a := zz0) QI Qcy)<|.o (Qa .k)<|.n) fun n0 a w H => ?_
 have H := H.to [0,1] [_,_] [_] rfl rfl
 have ⟨t11,ht11,h⟩ := bs h
 refine sr mx [] H (fun _ => .o (Qe QfS z0)<|.o (Qd (u := (s_).x) Qar z0 rfl)<|.o (Qe QiU z2)<|.o (Qd (u := (s_).kind) tok3 z0 rfl)<|.o (Qe QlD z4)<|.o (Qd (u := (s_).field) tok3 z0 rfl)<|.o (Qf QmV (Qkq ht11) (.cons (.of z4)<|.cons (.of z2)<|.cons (.of z0)<|.nil))<|.o (Qa z0)<|.n) fun _ a w H => ?_
 have H := H.to [7,8,9] [_,_,_] [_] rfl rfl
 refine wp_seq_k (fun _ k4 => ?_)
 refine sr mx [] H (fun _ => .q 0 rfl<|.o (QG z0 .k)<|.n) fun _ a w H => ?_
 have H := H.to [1,2,3,4] [_,_,_,_] [_] rfl rfl
 refine wi H h (fun b8 h => ?_) (fun b8 h => ?_)
 ·refine sr mx [v0 (box (Qb.cs zz0) (n0 1))] H (fun _ => .p (T := Qb.ty zz0) rfl (QY ud61 pl61 zv61 zc61 (.nil _))<|.e [] [0] [1] rfl rfl rfl rfl (QS (R := Qb) (a := zz0) QI z4 z0 (leb rfl))<|.o (Qa .k)<|.n) fun _ a w H => ?_
  have H := H.to [1,5] [_,_] [_] rfl rfl
  refine wp_ret ?_
  obtain rfl := sj h
  exact rt undef [] hpl H (.cell (R := Qb) (u := zz0) QI z1 0 rfl rfl (.tmp z0 .nil))
 refine wp_skip (k4 _ _ ?_)
 have ⟨t22,ht22,h⟩ := bs h
 have ⟨t27,ht27,h⟩ := bs h
 have ⟨t28,ht28,h⟩ := bs h
 refine sr mx [v0 (box (Qb.cs t28.1) (n0 1))] H (fun _ => .o (Qe QfS z2)<|.o (Qd (u := (s_).x) Qar z0 rfl)<|.q 3 rfl<|.o (Qe QfS z5)<|.o (Qe Q9 z0)<|.o (Qd (u := ((s_).x).Kinds) QaF z0 rfl)<|.q 7 rfl<|.o (Qr ud23 QZ z1 z0 ht22)<|.o (Qm QZ z0)<|.o (Qe Qkl z11)<|.o (Qe Qas z0)<|.o (Qd (u := ((s_).f).Of) tok9 z0 rfl)<|.o (Qf Qml (Qe9 ht27) (.cons (.of z3)<|.cons (.of z0)<|.nil))<|.o (Qf Qlc (QgP ht28) (.cons (.of z11)<|.cons (.of z10)<|.cons (.of z0)<|.nil))<|.o (QU z0 rfl)<|.o (QU z1 rfl)<|.e [] [0] [1] rfl rfl rfl rfl (QS (R := Qb) (a := t28.1) QI z19 z1 (leb rfl))<|.o (Qa z0)<|.n) fun _ a w H => ?_
 have H := H.to [16,20] [_,_] [_] rfl rfl
 refine wp_ret ?_
 obtain rfl := sj h
 exact rt undef [] hpl H (.cell (R := Qb) (u := t28.1) QI z1 0 rfl rfl (.tmp z0 .nil))

/- diorama/typing.checks$6 -/
noncomputable def QbZ (s_ : QP) : Option (Int) := (QbY s_).bind fun t7 => (Qbr s_).bind fun t11 => (opt (((!t7.2) || ((t7.1).Kind != (6:Int))) == false) (QbF (s_).x (t7.1).Of) default).bind fun t25 => (Qax [(Qv.mk t11 (12:Int)),(Qv.mk (((!t7.2) || ((t7.1).Kind != (6:Int))) || (t25 != (s_).kind)) (13:Int))]).bind fun t32 => (some t32)
theorem Qmy {s_ : QP} {r : Int} (h : QbZ s_ = some r) : FnOk Tryz.prog 214 [Qaa.ty s_] [] (fun _ => []) (fun _ => ti r) := by
 unfold QbZ at h
 refine fe Tryz.func214 Tryz.ntmps214 fun M0 M w0 a hpl H => ?_
 replace H : St M w0 33 [(0,Qaa.ty s_)] [] a w0 := H
 refine sr mx [] H (fun _ => .o (QV (R := Qaa) (u := s_) z0)<|.o (Qa .k)<|.n) fun _ a w H => ?_
 have H := H.to [0] [_] [] rfl rfl
 have ⟨t7,ht7,h⟩ := bs h
 refine sr mx [v1 5 (fun v0 => box (Qb.cs zz0) v0),v1 5 (fun v0 => box (Qb.cs t7.1) v0)] H (fun _ => .o (Qm Qmk z0)<|.o (Qf QqW (Qjy ht7) (.cons (.of z0)<|.nil))<|.q 0 rfl<|.o (QU z0 rfl)<|.o (QU z1 rfl)<|.m [] [0] rfl rfl rfl (Q0 (R := Qb) (a := zz0) QI Qcy)<|.e [] [0] [1] rfl rfl rfl rfl (QS (R := Qb) (a := t7.1) QI z0 z2 (leb rfl))<|.o (Qa z1)<|.n) fun _ a w H => ?_
 replace H : St _ _ _ [_,_,_] [] _ _ := (((H.pick [5,6,7]).shareB 0 rfl).add 0 rfl (fun _ _ _ h => h.2)).pick [0,3,4]
 have ⟨t11,ht11,h⟩ := bs h
 have ⟨t25,ht25,h⟩ := bs h
 have ⟨t32,ht32,h⟩ := bs h
 refine sr mx [] H (fun _ => .o (Qm Qmk z2)<|.o (Qf QoG (Qgz ht11) (.cons (.of z0)<|.nil))<|.p (T := QX.ty (Qv.mk t11 (12:Int))) rfl (QY QeK QeJ QeI Qd7 (.cons (R := Qa7) (u := t11) rfl z0 (leb rfl)<|.cons (R := rI) (u := (12:Int)) rfl .k (leb rfl)<|.nil _))<|.q 4 rfl<|.o (Qae z0)<|.q 0 rfl<|.g rfl rfl bq0 (fun _ => Qe Qao z6)<|.g rfl rfl bq1 (fun hc => Qd (u := (t7.1).Kind) tok3 (.cond z0 hc) rfl)<|.g rfl rfl bq2 (fun hc => Qau (.cond z0 hc) .k)<|.o (Q6 z3 (fun hp => (.cond z0 (beqF hp))))<|.q 0 rfl<|.g rfl rfl bq0 (fun _ => Qe QfS z13)<|.g rfl rfl bq1 (fun hc => Qd (u := (s_).x) Qar (.cond z0 hc) rfl)<|.g rfl rfl bq2 (fun _ => Qe Qas z13)<|.g rfl rfl bq3 (fun hc => Qd (u := (t7.1).Of) tok9 (.cond z0 hc) rfl)<|.g rfl rfl bq4 (fun hc => Qf Qla (Qeh (Qaj ht25 hc)) (.cons (.of (.cond z2 hc))<|.cons (.of (.cond z0 hc))<|.nil))<|.g rfl rfl bq5 (fun _ => Qe QiU z18)<|.g rfl rfl bq6 (fun hc => Qd (u := (s_).kind) tok3 (.cond z0 hc) rfl)<|.g rfl rfl bq7 (fun hc => Qau (.cond z2 hc) (.cond z0 hc))<|.o (Q6 z8 (fun hp => (.cond z0 (beqF hp))))<|.p (T := QX.ty (Qv.mk (((!t7.2) || ((t7.1).Kind != (6:Int))) || (t25 != (s_).kind)) (13:Int))) rfl (QY QeK QeJ QeI Qd7 (.cons (R := Qa7) (u := (((!t7.2) || ((t7.1).Kind != (6:Int))) || (t25 != (s_).kind))) rfl z0 (leb rfl)<|.cons (R := rI) (u := (13:Int)) rfl .k (leb rfl)<|.nil _))<|.o (Qy (R := QX) (us := [(Qv.mk t11 (12:Int)),(Qv.mk (((!t7.2) || ((t7.1).Kind != (6:Int))) || (t25 != (s_).kind)) (13:Int))]) Qhe Qen (.cons z18<|.cons z0<|.nil _) rfl (leb rfl))<|.o (Qf QgN (Qbh ht32) (.cons (.of z0)<|.nil))<|.o (Qa z0)<|.n) fun _ a w H => ?_
 have H := H.to [23] [_] [] rfl rfl
 refine wp_ret ?_
 obtain rfl := sj h
 exact rt undef [] hpl H (.tmp z0 .nil)

/- diorama/typing.checks$7 -/
noncomputable def Qb0 (s_ : QP) : Option (Int) := (QbY s_).bind fun t8 => (Qbr s_).bind fun t35 => (Qax [(Qv.mk t35 (12:Int)),(Qv.mk ((!t8.2) || (!((((((t8.1).Kind == (2:Int)) || ((t8.1).Kind == (3:Int))) || ((t8.1).Kind == (4:Int))) || ((t8.1).Kind == (5:Int))) || ((t8.1).Kind == (8:Int))))) (13:Int))]).bind fun t45 => (some t45)
theorem Qmz {s_ : QP} {r : Int} (h : Qb0 s_ = some r) : FnOk Tryz.prog 216 [Qaa.ty s_] [] (fun _ => []) (fun _ => ti r) := by
 unfold Qb0 at h
 refine fe Tryz.func216 Tryz.ntmps216 fun M0 M w0 a hpl H => ?_
 replace H : St M w0 46 [(0,Qaa.ty s_)] [] a w0 := H
 refine sr mx [] H (fun _ => .o (QV (R := Qaa) (u := s_) z0)<|.o (Qa .k)<|.n) fun _ a w H => ?_
 have H := H.to [0] [_] [] rfl rfl
 have ⟨t8,ht8,h⟩ := bs h
 refine sr mx [v1 5 (fun v0 => box (Qb.cs zz0) v0),v1 5 (fun v0 => box (Qb.cs t8.1) v0)] H (fun _ => .o (Qm Qmk z0)<|.o (Qf QqW (Qjy ht8) (.cons (.of z0)<|.nil))<|.q 0 rfl<|.o (QU z0 rfl)<|.o (QU z1 rfl)<|.m [] [0] rfl rfl rfl (Q0 (R := Qb) (a := zz0) QI Qcy)<|.e [] [0] [1] rfl rfl rfl rfl (QS (R := Qb) (a := t8.1) QI z0 z2 (leb rfl))<|.o (Qa z1)<|.n) fun _ a w H => ?_
 replace H : St _ _ _ [_,_,_] [] _ _ := (((H.pick [5,6,7]).shareB 0 rfl).add 0 rfl (fun _ _ _ h => h.2)).pick [0,3,4]
 refine sr mx [] H (fun _ => .o (Qe Qao z0)<|.o (Qd (u := (t8.1).Kind) tok3 z0 rfl)<|.o (QM z0 .k)<|.q 0 rfl<|.g rfl rfl bq0 (fun _ => Qe Qao z4)<|.g rfl rfl bq1 (fun hc => Qd (u := (t8.1).Kind) tok3 (.cond z0 hc) rfl)<|.g rfl rfl bq2 (fun hc => QM (.cond z0 hc) .k)<|.o (Q6 z3 (fun hp => (.cond z0 (beqF hp))))<|.q 0 rfl<|.g rfl rfl bq0 (fun _ => Qe Qao z9)<|.g rfl rfl bq1 (fun hc => Qd (u := (t8.1).Kind) tok3 (.cond z0 hc) rfl)<|.g rfl rfl bq2 (fun hc => QM (.cond z0 hc) .k)<|.o (Q6 z3 (fun hp => (.cond z0 (beqF hp))))<|.q 0 rfl<|.g rfl rfl bq0 (fun _ => Qe Qao z14)<|.g rfl rfl bq1 (fun hc => Qd (u := (t8.1).Kind) tok3 (.cond z0 hc) rfl)<|.g rfl rfl bq2 (fun hc => QM (.cond z0 hc) .k)<|.o (Q6 z3 (fun hp => (.cond z0 (beqF hp))))<|.q 0 rfl<|.g rfl rfl bq0 (fun _ => Qe Qao z19)<|.g rfl rfl bq1 (fun hc => Qd (u := (t8.1).Kind) tok3 (.cond z0 hc) rfl)<|.g rfl rfl bq2 (fun hc => QM (.cond z0 hc) .k)<|.o (Q6 z3 (fun hp => (.cond z0 (beqF hp))))<|.o (Qa z0)<|.n) fun _ a w H => ?_
 have H := H.to [23,25,26] [_,_,_] [] rfl rfl
 have ⟨t35,ht35,h⟩ := bs h
 have ⟨t45,ht45,h⟩ := bs h
 refine sr mx [] H (fun _ => .o (Qm Qmk z2)<|.o (Qf QoG (Qgz ht35) (.cons (.of z0)<|.nil))<|.p (T := QX.ty (Qv.mk t35 (12:Int))) rfl (QY QeK QeJ QeI Qd7 (.cons (R := Qa7) (u := t35) rfl z0 (leb rfl)<|.cons (R := rI) (u := (12:Int)) rfl .k (leb rfl)<|.nil _))<|.q 4 rfl<|.o (Qae z0)<|.q 0 rfl<|.g rfl rfl bq0 (fun _ => Qq z6)<|.g rfl rfl bq1 (fun hc => Qae (.cond z0 hc))<|.o (Q6 z2 (fun hp => (.cond z0 (beqF hp))))<|.p (T := QX.ty (Qv.mk ((!t8.2) || (!((((((t8.1).Kind == (2:Int)) || ((t8.1).Kind == (3:Int))) || ((t8.1).Kind == (4:Int))) || ((t8.1).Kind == (5:Int))) || ((t8.1).Kind == (8:Int))))) (13:Int))) rfl (QY QeK QeJ QeI Qd7 (.cons (R := Qa7) (u := ((!t8.2) || (!((((((t8.1).Kind == (2:Int)) || ((t8.1).Kind == (3:Int))) || ((t8.1).Kind == (4:Int))) || ((t8.1).Kind == (5:Int))) || ((t8.1).Kind == (8:Int)))))) rfl z0 (leb rfl)<|.cons (R := rI) (u := (13:Int)) rfl .k (leb rfl)<|.nil _))<|.o (Qy (R := QX) (us := [(Qv.mk t35 (12:Int)),(Qv.mk ((!t8.2) || (!((((((t8.1).Kind == (2:Int)) || ((t8.1).Kind == (3:Int))) || ((t8.1).Kind == (4:Int))) || ((t8.1).Kind == (5:Int))) || ((t8.1).Kind == (8:Int))))) (13:Int))]) Qhe Qen (.cons z7<|.cons z0<|.nil _) rfl (leb rfl))<|.o (Qf QgN (Qbh ht45) (.cons (.of z0)<|.nil))<|.o (Qa z0)<|.n) fun _ a w H => ?_
 have H := H.to [12] [_] [] rfl rfl
 refine wp_ret ?_
 obtain rfl := sj h
 exact rt undef [] hpl H (.tmp z0 .nil)

noncomputable def Qbp (i : Int) : Option (QP → Option Int) := if i = 0 then some QbT else if i = 1 then some QbU else if i = 4 then some QbV else if i = 5 then some QbW else if i = 6 then some QbX else if i = 7 then some QbZ else if i = 8 then some Qb0 else none
theorem Qr4 {Γ : List (Nat × Ty)} {d : Option Tmp} {ty : TypeId} {pos : String} {af : Array Edge} {g : Option (Nat × Bool)} {x y : Operand} {i : Int} (hx : Fct Γ x QrK) (hi : Fct Γ y (tv (.int .i64 i))) :
  OpJ Tryz.prog ⟨d,.lookup 131 x y true,ty,pos,af,g⟩ Γ [] [] (fun _ => []) (fun _ => ttup [Qea.ty (Qcb.mk (Qbp i)),tv (.bool (Qbp i).isSome)]) := by
 have key : (Qci Qjj i).isSome = (Qbp i).isSome ∧ ∀ F w,(Qea.ty (Qcb.mk (Qbp i))).ok F w ((Qci Qjj i).getD (.agg #[.nilFunc])) := by
  unfold Qbp
  by_cases h0 : i = 0
  ·subst h0; exact ⟨rfl,fun F w => ⟨_,rfl,.cons ⟨207,[],[],[],[],rfl,.nil,.nil,QuG,fun _ _ hq => Qmt hq⟩ .nil⟩⟩
  by_cases h1 : i = 1
  ·subst h1; exact ⟨rfl,fun F w => ⟨_,rfl,.cons ⟨208,[],[],[],[],rfl,.nil,.nil,QuH,fun _ _ hq => Qmu hq⟩ .nil⟩⟩
  by_cases h4 : i = 4
  ·subst h4; exact ⟨rfl,fun F w => ⟨_,rfl,.cons ⟨209,[],[],[],[],rfl,.nil,.nil,QuI,fun _ _ hq => Qmv hq⟩ .nil⟩⟩
  by_cases h5 : i = 5
  ·subst h5; exact ⟨rfl,fun F w => ⟨_,rfl,.cons ⟨210,[],[],[],[],rfl,.nil,.nil,QuJ,fun _ _ hq => Qmw hq⟩ .nil⟩⟩
  by_cases h6 : i = 6
  ·subst h6; exact ⟨rfl,fun F w => ⟨_,rfl,.cons ⟨212,[],[],[],[],rfl,.nil,.nil,QuL,fun _ _ hq => Qmx hq⟩ .nil⟩⟩
  by_cases h7 : i = 7
  ·subst h7; exact ⟨rfl,fun F w => ⟨_,rfl,.cons ⟨214,[],[],[],[],rfl,.nil,.nil,QuN,fun _ _ hq => Qmy hq⟩ .nil⟩⟩
  by_cases h8 : i = 8
  ·subst h8; exact ⟨rfl,fun F w => ⟨_,rfl,.cons ⟨216,[],[],[],[],rfl,.nil,.nil,QuO,fun _ _ hq => Qmz hq⟩ .nil⟩⟩
  simp only [Qci,Qjj,if_neg h0,if_neg h1,if_neg h4,if_neg h5,if_neg h6,if_neg h7,if_neg h8]
  exact ⟨rfl,fun F w => ⟨_,rfl,.cons rfl .nil⟩⟩
 have h := QsQ (P := Tryz.prog) (Γ := Γ) (d := d) (ty := ty) (pos := pos) (af := af) (g := g) (V := fun _ => Qea.ty (Qcb.mk (Qbp i))) Tryz.underlying131 ud3 zv129 hx hi key.2
 rw [key.1] at h
 exact h

end Go.Proofs.YtcdccjagknlmpaaGreatDoor
