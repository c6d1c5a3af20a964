/- Go functions as Lean functions, and the proofs that they compute them, written by a program. No condition. -/
import Derived.Test.YtcdccjagknlmpaaGreatDoorGenD
namespace Go.Proofs.YtcdccjagknlmpaaGreatDoor
open Go.Sim
set_option maxRecDepth 100000
set_option maxHeartbeats 4000000

/- diorama/typing.shares -/
noncomputable def Qc3 (x_ : Qg) (kind_ : Int) (f_ : Qc) : Option (Int × (List Int)) := (Qby x_ (f_).Of).bind fun t15 => (if (((f_).Kind != (6:Int)) || (decide (t15 ≤ kind_))) = true then (some ((-1:Int),([] : List Int))) else (idx (x_).Kinds t15).bind fun t27 => (QI (fun (s10 : Int × List Int) => ((if (decide (s10.1 < ((t27).Fields.length : Int))) = true then (idx (t27).Fields s10.1).bind fun t34 => (opt ((((t34).Kind == (7:Int)) && ((t34).Of == (f_).Name)) == true) (Qfe x_ t15 s10.1) default).bind fun t50 => ((if ((((t34).Kind == (7:Int)) && ((t34).Of == (f_).Name)) && (t50 == kind_)) = true then (rm (s10.2.length + [s10.1].length)).bind fun _ => (some (s10.2 ++ [s10.1])) else (some s10.2))).bind fun (p45 : List Int) => (some (.inl ((IntKind.i64.wrap (s10.1 + (1:Int))),p45))) else (some (.inr s10.2))) : Option ((Int × List Int) ⊕ ((List Int))))) ((0:Int),([] : List Int))).bind fun (p35 : (List Int)) => (some (t15,p35)))
theorem QmU {x_ : Qg} {kind_ : Int} {f_ : Qc} {r : Int × (List Int)} (h : Qc3 x_ kind_ f_ = some r) : FnOk Tryz.prog 213 [Qm.ty x_,ti kind_,Qd.ty f_] [] (fun _ => []) (fun _ => ttup [ti r.1,tsl rI r.2]) := by
 unfold Qc3 at h
 refine fe Tryz.func213 Tryz.ntmps213 fun M0 M w0 a hpl H => ?_
 replace H : St M w0 61 [(0,Qm.ty x_),(1,ti kind_),(2,Qd.ty f_)] [] a w0 := H
 refine sr mx [] H (fun _ => .o (QT (R := Qm) (u := x_) z0)<|.o (QT (R := Qd) (u := f_) z3)<|.o (Qa .k)<|.o (Qa (.nilsl (R := rI)))<|.n) fun _ a w H => ?_
 have H := H.to [0,1,5] [_,_,_] [] rfl rfl
 have ⟨t15,ht15,h⟩ := bs h
 refine sr mx [] H (fun _ => .o (Qr QaR z0)<|.o (Qe QaA z2)<|.o (Qf (u := (f_).Of) tok9 z0 rfl)<|.o (Qh Qkc (Qd0 ht15) (.cons (.of z2)<|.cons (.of z0)<|.nil))<|.o (Qa z0)<|.n) fun _ a w H => ?_
 have H := H.to [4,5,6,7] [_,_,_,_] [] rfl rfl
 refine wp_seq_k (fun _ k3 => ?_)
 refine sr mx [] H (fun _ => .o (Qe QaX z2)<|.o (Qf (u := (f_).Kind) tok3 z0 rfl)<|.o (Qam z0 .k)<|.q 0 rfl<|.g rfl rfl bq0 (fun _ => Qw z4)<|.g rfl rfl bq1 (fun _ => Qw z8)<|.g rfl rfl bq2 (fun hc => Qd5 (.cond z1 hc) (.cond z0 hc))<|.o (Qao z3 (fun hp => (.cond z0 (beqF hp))))<|.n) fun _ a w H => ?_
 have H := H.to [7,8,9,10,11] [_,_,_,_,_] [] rfl rfl
 refine wi H h (fun b50 h => ?_) (fun b50 h => ?_)
 ·refine sr mx [] H (fun _ => .o (Qa .k)<|.o (Qa (.nilsl (R := rI)))<|.n) fun _ a w H => ?_
  have H := H.to [0,1] [_,_] [] rfl rfl
  refine wp_ret ?_
  obtain rfl := sj h
  exact rt undef [] hpl H (.tmp z0 (.tmp z1 .nil))
 refine wp_skip (k3 _ _ ?_)
 refine sr mx [] H (fun _ => .o (Qa .k)<|.n) fun _ a w H => ?_
 replace H : St _ _ _ [_,_,_,_,_] [_] _ _ := (H.pick [0,2,3,4,5]).nil (rI) 3
 refine wp_seq_k (fun K8 k8 => ?_)
 have ⟨t27,ht27,h⟩ := bs h
 refine sr mx [] H (fun _ => .o (Qe QaJ z2)<|.o (Qf (u := (x_).Kinds) Qdp z0 rfl)<|.q 3 rfl<|.o (QG ud23 Q7 z1 z0 ht27)<|.o (Qe Qap z0)<|.o (Qf (u := (t27).Fields) Qc8 z0 rfl)<|.o (QN ud53 z0)<|.o (Qw .k)<|.n) fun _ a w H => ?_
 have H := H.to [5,6,7,8,9,10,11,12] [_,_,_,_,_,_,_,_] [_] rfl rfl
 have ⟨e11,he11,h⟩ := bs h
 have hJp35 : ∀ (p35 : List Int) (v36 : Value) a w,p35 = e11 → St M w0 61 [(9,tv v36),(8,ti t15)] [own rI 3 p35 v36] a w → K8 a w := by
  intro p35 v36 a w he H
  subst he
  refine k8 _ _ ?_
  refine sr mx [] H (fun _ => .q 1 rfl<|.q 1 rfl<|.o (Qa z1)<|.o (Qa z1)<|.n) fun _ a w H => ?_
  have H := H.to [1,2,3,4] [_,_,_,_] [_] rfl rfl
  refine wp_ret ?_
  replace H : St _ _ _ [_,_] [] _ _ := (H.shareO 2 rfl).pick [0,2]
  obtain rfl := sj h
  exact rt undef [] hpl H (.tmp z1 (.tmp z0 .nil))
 refine wp_block ?_
 refine QZ _ (fun (s10 : Int × List Int) a w => ∃ v23 : Value,St M w0 61 [(29,tsl Qd (t27).Fields),(30,ti ((t27).Fields.length : Int)),(31,ti s10.1),(9,tv v23),(8,ti t15),(3,tptr (Qm.cs x_)),(5,tptr (Qd.cs f_)),(1,ti kind_)] [own rI 3 s10.2 v23] a w) _ _ he11 ⟨(.slice none 0 0),H.pick [0,1,2,3,4,5,6,7]⟩ ?_
 clear h
 intro s10 o a w K38 hI h ho k38
 obtain ⟨v23,H⟩ := hI
 refine sr mx [] H (fun _ => .o (QU z2 z1)<|.n) fun _ a w H => ?_
 have H := H.to [0,1,2,3,4,5,6,7,8] [_,_,_,_,_,_,_,_,_] [_] rfl rfl
 refine wp_seq_k (fun _ k40 => ?_)
 refine wi H h (fun b49 h => ?_) (fun b49 h => ?_)
 ·refine wp_skip (k40 _ _ ?_)
  refine wp_seq_k (fun K41 k41 => ?_)
  refine wp_block ?_
  have ⟨t34,ht34,h⟩ := bs h
  refine sr mx [v1 3 (fun v0 => box (Qd.cs zz0) v0),v1 3 (fun v0 => box (Qd.cs t34) v0)] H (fun _ => .q 3 rfl<|.o (QG ud53 QS z2 z4 ht34)<|.o (Qr QS z0)<|.m [] [1] rfl rfl rfl (Q1 (R := Qd) (a := zz0) QS Qeh)<|.o (Qa z3)<|.e [] [1] [2] rfl rfl rfl rfl (QR (R := Qd) (a := t34) QS z1 z2 (leb rfl))<|.n) fun _ a w H => ?_
  replace H : St _ _ _ [_,_,_,_,_,_,_,_,_,_] [_] _ _ := ((((H.pick [3,4,6,7,8,9,10,11,12,13]).selA [1,0] rfl).shareB 0 rfl).add 0 rfl (fun _ _ _ h => h.2)).pick [0,3,4,5,6,7,8,9,10,11]
  have ⟨t50,ht50,h⟩ := bs h
  refine sr mx [] H (fun _ => .o (Qe QaX z0)<|.o (Qf (u := (t34).Kind) tok3 z0 rfl)<|.o (Q4 z0 .k)<|.q 0 rfl<|.g rfl rfl bq0 (fun _ => Qe QaA z4)<|.g rfl rfl bq1 (fun hc => Qf (u := (t34).Of) tok9 (.cond z0 hc) rfl)<|.g rfl rfl bq2 (fun _ => Qe Qce z14)<|.g rfl rfl bq3 (fun hc => Qf (u := (f_).Name) tok9 (.cond z0 hc) rfl)<|.g rfl rfl bq4 (fun hc => QcX (.cond z2 hc) (.cond z0 hc))<|.o (QY z5 (fun hp => (.cond z0 (beqT hp))))<|.q 0 rfl<|.g rfl rfl bq0 (fun _ => Qr QaR z18)<|.g rfl rfl bq1 (fun _ => Qw z18)<|.g rfl rfl bq2 (fun _ => Qw z14)<|.g rfl rfl bq3 (fun hc => Qh Qma (Qjq (Q9 ht50 hc)) (.cons (.of (.cond z2 hc))<|.cons (.of (.cond z1 hc))<|.cons (.of (.cond z0 hc))<|.nil))<|.g rfl rfl bq4 (fun _ => Qw z24)<|.g rfl rfl bq5 (fun hc => Q4 (.cond z1 hc) (.cond z0 hc))<|.o (QY z6 (fun hp => (.cond z0 (beqT hp))))<|.n) fun _ a w H => ?_
  have H := H.to [17,19,20,21,22,23,24,25,26,27] [_,_,_,_,_,_,_,_,_,_] [_] rfl rfl
  have ⟨p45,hp45,h⟩ := bs h
  have hJp45 : ∀ (v47 : Value) a w,St M w0 61 [(9,tv v47),(29,tsl Qd (t27).Fields),(30,ti ((t27).Fields.length : Int)),(31,ti s10.1),(8,ti t15),(3,tptr (Qm.cs x_)),(5,tptr (Qd.cs f_)),(1,ti kind_)] [own rI 3 p45 v47] a w → K41 a w := by
   intro v47 a w H
   refine k41 _ _ ?_
   refine wr mx [] H (fun _ => .o (QV z3 .k)<|.q 0 rfl<|.n) fun _ a w H => ?_
   have H := H.to [1,2,3,4,5,6,7,8] [_,_,_,_,_,_,_,_] [_] rfl rfl
   exact k38 _ _ _ (sj h).symm ⟨v47,H.pick [2,3,0,1,4,5,6,7]⟩
  replace h := hp45
  clear hp45
  refine wi H h (fun b48 h => ?_) (fun b48 h => ?_)
  ·have ⟨u57,hu57,h⟩ := bs h
   refine wr mx [v1 3 (fun v0 => own rI 3 (s10.2 ++ [s10.1]) v0)] H (fun _ => .q 5 rfl<|.q 2 rfl<|.o (QE (R := rI) (us := [s10.1]) ud22 tok3 (.cons z0<|.nil _) rfl (leb rfl))<|.e [] [0] [1] rfl rfl rfl rfl (Qaf (R := rI) ud22 tok3 (leb rfl) z2 z0 hu57)<|.ud (f := fun v => tv v) 3 rfl [] rfl rfl (Qa z0)<|.n) fun n9 a w H => ?_
   have H := H.to [3,4,7,8,9,10,11,12,13] [_,_,_,_,_,_,_,_,_] [_] rfl rfl
   obtain rfl := sj h
   exact hJp45 (n9 3) _ _ (H.pick [1,2,3,4,5,6,7,8])
  refine wp_skip ?_
  obtain rfl := sj h
  exact hJp45 v23 _ _ (H.pick [5,2,3,4,6,7,8,9])
 refine wp_exit ?_
 exact hJp35 _ v23 _ _ (ho _ (sj h).symm) (H.pick [4,5])

/- diorama/typing.checks$5 -/
noncomputable def QbT (s_ : QH) : Option (Int) := (Qc3 (s_).x (s_).kind (s_).f).bind fun t12 => (Qae [(Qq.mk (decide (t12.1 < (0:Int))) (12:Int)),(Qq.mk ((t12.2.length : Int) != (1:Int)) (11:Int))]).bind fun t23 => (some t23)
theorem QlD {s_ : QH} {r : Int} (h : QbT s_ = some r) : FnOk Tryz.prog 212 [QW.ty s_] [] (fun _ => []) (fun _ => ti r) := by
 unfold QbT at h
 refine fe Tryz.func212 Tryz.ntmps212 fun M0 M w0 a hpl H => ?_
 replace H : St M w0 24 [(0,QW.ty s_)] [] a w0 := H
 refine sr mx [] H (fun _ => .o (QT (R := QW) (u := s_) z0)<|.o (Qa .k)<|.n) fun _ a w H => ?_
 have H := H.to [0] [_] [] rfl rfl
 have ⟨t12,ht12,h⟩ := bs h
 refine sr mx [] H (fun _ => .o (Qe Qfc z0)<|.o (Qf (u := (s_).x) QaR z0 rfl)<|.o (Qe Qh8 z2)<|.o (Qf (u := (s_).kind) tok3 z0 rfl)<|.o (Qe Qjm z4)<|.o (Qf (u := (s_).f) QS z0 rfl)<|.o (Qh QvJ (QmU ht12) (.cons (.of z4)<|.cons (.of z2)<|.cons (.of z0)<|.nil))<|.q 0 rfl<|.o (QM z0 rfl)<|.o (QM z1 rfl)<|.o (Qa z1)<|.o (Qa z1)<|.n) fun _ a w H => ?_
 have H := H.to [10,11] [_,_] [] rfl rfl
 have ⟨t23,ht23,h⟩ := bs h
 refine sr mx [] H (fun _ => .q 0 rfl<|.o (QU z0 .k)<|.p (T := QL.ty (Qq.mk (decide (t12.1 < (0:Int))) (12:Int))) rfl (QX Qek Qej Qei QdP (.cons (R := Qa5) (u := (decide (t12.1 < (0:Int)))) rfl z0 (leb rfl)<|.cons (R := rI) (u := (12:Int)) rfl .k (leb rfl)<|.nil _))<|.q 4 rfl<|.o (QN ud22 z0)<|.o (Qam z0 .k)<|.p (T := QL.ty (Qq.mk ((t12.2.length : Int) != (1:Int)) (11:Int))) rfl (QX Qek Qej Qei QdP (.cons (R := Qa5) (u := ((t12.2.length : Int) != (1:Int))) rfl z0 (leb rfl)<|.cons (R := rI) (u := (11:Int)) rfl .k (leb rfl)<|.nil _))<|.o (QE (R := QL) (us := [(Qq.mk (decide (t12.1 < (0:Int))) (12:Int)),(Qq.mk ((t12.2.length : Int) != (1:Int)) (11:Int))]) Qgk Qd6 (.cons z4<|.cons z0<|.nil _) rfl (leb rfl))<|.o (Qh QfV (Qa6 ht23) (.cons (.of z0)<|.nil))<|.o (Qa z0)<|.n) fun _ a w H => ?_
 have H := H.to [9] [_] [] rfl rfl
 refine wp_ret ?_
 obtain rfl := sj h
 exact rt undef [] hpl H (.tmp z0 .nil)

/- (diorama/typing.spot).top -/
noncomputable def QbU (s_ : QH) : Option (Qc × Bool) := (Qfe (s_).x (s_).kind (s_).field).bind fun t11 => (if (decide (t11 < (0:Int))) = true then (some (zz0,false)) else (idx ((s_).x).Kinds t11).bind fun t22 => (Qbo t22 ((s_).f).Of).bind fun t27 => (Qcn (s_).x t11 t27).bind fun t28 => (some (t28.1,t28.2)))
theorem Qiz {s_ : QH} {r : Qc × Bool} (h : QbU s_ = some r) : FnOk Tryz.prog 215 [QW.ty s_] [] (fun _ => []) (fun _ => ttup [Qd.ty r.1,tb r.2]) := by
 unfold QbU at h
 refine fe Tryz.func215 Tryz.ntmps215 fun M0 M w0 a hpl H => ?_
 replace H : St M w0 31 [(0,QW.ty s_)] [] a w0 := H
 refine sr mx [v1 1 (fun v0 => box (Qd.cs zz0) v0)] H (fun _ => .o (QT (R := QW) (u := s_) z0)<|.m [] [0] rfl rfl rfl (Q1 (R := Qd) (a := zz0) QS Qeh)<|.o (Qa .k)<|.n) fun n0 a w H => ?_
 have H := H.to [0,1] [_,_] [_] rfl rfl
 have ⟨t11,ht11,h⟩ := bs h
 refine sr mx [] H (fun _ => .o (Qe Qfc z0)<|.o (Qf (u := (s_).x) QaR z0 rfl)<|.o (Qe Qh8 z2)<|.o (Qf (u := (s_).kind) tok3 z0 rfl)<|.o (Qe QkP z4)<|.o (Qf (u := (s_).field) tok3 z0 rfl)<|.o (Qh Qma (Qjq ht11) (.cons (.of z4)<|.cons (.of z2)<|.cons (.of z0)<|.nil))<|.o (Qa z0)<|.n) fun _ a w H => ?_
 have H := H.to [7,8,9] [_,_,_] [_] rfl rfl
 refine wp_seq_k (fun _ k4 => ?_)
 refine sr mx [] H (fun _ => .q 0 rfl<|.o (QU z0 .k)<|.n) fun _ a w H => ?_
 have H := H.to [1,2,3,4] [_,_,_,_] [_] rfl rfl
 refine wi H h (fun b8 h => ?_) (fun b8 h => ?_)
 ·refine sr mx [v0 (box (Qd.cs zz0) (n0 1))] H (fun _ => .p (T := Qd.ty zz0) rfl (QX ud61 pl61 zv61 zc61 (.nil _))<|.e [] [0] [1] rfl rfl rfl rfl (QR (R := Qd) (a := zz0) QS z4 z0 (leb rfl))<|.o (Qa .k)<|.n) fun _ a w H => ?_
  have H := H.to [1,5] [_,_] [_] rfl rfl
  refine wp_ret ?_
  obtain rfl := sj h
  exact rt undef [] hpl H (.cell (R := Qd) (u := zz0) QS z1 0 rfl rfl (.tmp z0 .nil))
 refine wp_skip (k4 _ _ ?_)
 have ⟨t22,ht22,h⟩ := bs h
 have ⟨t27,ht27,h⟩ := bs h
 have ⟨t28,ht28,h⟩ := bs h
 refine sr mx [v0 (box (Qd.cs t28.1) (n0 1))] H (fun _ => .o (Qe Qfc z2)<|.o (Qf (u := (s_).x) QaR z0 rfl)<|.q 3 rfl<|.o (Qe Qfc z5)<|.o (Qe QaJ z0)<|.o (Qf (u := ((s_).x).Kinds) Qdp z0 rfl)<|.q 7 rfl<|.o (QG ud23 Q7 z1 z0 ht22)<|.o (Qr Q7 z0)<|.o (Qe Qjm z11)<|.o (Qe QaA z0)<|.o (Qf (u := ((s_).f).Of) tok9 z0 rfl)<|.o (Qh Qls (Qez ht27) (.cons (.of z3)<|.cons (.of z0)<|.nil))<|.o (Qh Qkd (QfX ht28) (.cons (.of z11)<|.cons (.of z10)<|.cons (.of z0)<|.nil))<|.o (QM z0 rfl)<|.o (QM z1 rfl)<|.e [] [0] [1] rfl rfl rfl rfl (QR (R := Qd) (a := t28.1) QS z19 z1 (leb rfl))<|.o (Qa z0)<|.n) fun _ a w H => ?_
 have H := H.to [16,20] [_,_] [_] rfl rfl
 refine wp_ret ?_
 obtain rfl := sj h
 exact rt undef [] hpl H (.cell (R := Qd) (u := t28.1) QS z1 0 rfl rfl (.tmp z0 .nil))

/- diorama/typing.checks$6 -/
noncomputable def QbV (s_ : QH) : Option (Int) := (QbU s_).bind fun t7 => (Qbm s_).bind fun t11 => (opt (((!t7.2) || ((t7.1).Kind != (6:Int))) == false) (Qby (s_).x (t7.1).Of) default).bind fun t25 => (Qae [(Qq.mk t11 (12:Int)),(Qq.mk (((!t7.2) || ((t7.1).Kind != (6:Int))) || (t25 != (s_).kind)) (13:Int))]).bind fun t32 => (some t32)
theorem QlE {s_ : QH} {r : Int} (h : QbV s_ = some r) : FnOk Tryz.prog 214 [QW.ty s_] [] (fun _ => []) (fun _ => ti r) := by
 unfold QbV at h
 refine fe Tryz.func214 Tryz.ntmps214 fun M0 M w0 a hpl H => ?_
 replace H : St M w0 33 [(0,QW.ty s_)] [] a w0 := H
 refine sr mx [] H (fun _ => .o (QT (R := QW) (u := s_) z0)<|.o (Qa .k)<|.n) fun _ a w H => ?_
 have H := H.to [0] [_] [] rfl rfl
 have ⟨t7,ht7,h⟩ := bs h
 refine sr mx [v1 5 (fun v0 => box (Qd.cs zz0) v0),v1 5 (fun v0 => box (Qd.cs t7.1) v0)] H (fun _ => .o (Qr Qlr z0)<|.o (Qh Qq7 (Qiz ht7) (.cons (.of z0)<|.nil))<|.q 0 rfl<|.o (QM z0 rfl)<|.o (QM z1 rfl)<|.m [] [0] rfl rfl rfl (Q1 (R := Qd) (a := zz0) QS Qeh)<|.e [] [0] [1] rfl rfl rfl rfl (QR (R := Qd) (a := t7.1) QS z0 z2 (leb rfl))<|.o (Qa z1)<|.n) fun _ a w H => ?_
 replace H : St _ _ _ [_,_,_] [] _ _ := (((H.pick [5,6,7]).shareB 0 rfl).add 0 rfl (fun _ _ _ h => h.2)).pick [0,3,4]
 have ⟨t11,ht11,h⟩ := bs h
 have ⟨t25,ht25,h⟩ := bs h
 have ⟨t32,ht32,h⟩ := bs h
 refine sr mx [] H (fun _ => .o (Qr Qlr z2)<|.o (Qh Qob (QfH ht11) (.cons (.of z0)<|.nil))<|.p (T := QL.ty (Qq.mk t11 (12:Int))) rfl (QX Qek Qej Qei QdP (.cons (R := Qa5) (u := t11) rfl z0 (leb rfl)<|.cons (R := rI) (u := (12:Int)) rfl .k (leb rfl)<|.nil _))<|.q 4 rfl<|.o (Qar z0)<|.q 0 rfl<|.g rfl rfl bq0 (fun _ => Qe QaX z6)<|.g rfl rfl bq1 (fun hc => Qf (u := (t7.1).Kind) tok3 (.cond z0 hc) rfl)<|.g rfl rfl bq2 (fun hc => Qam (.cond z0 hc) .k)<|.o (Qao z3 (fun hp => (.cond z0 (beqF hp))))<|.q 0 rfl<|.g rfl rfl bq0 (fun _ => Qe Qfc z13)<|.g rfl rfl bq1 (fun hc => Qf (u := (s_).x) QaR (.cond z0 hc) rfl)<|.g rfl rfl bq2 (fun _ => Qe QaA z13)<|.g rfl rfl bq3 (fun hc => Qf (u := (t7.1).Of) tok9 (.cond z0 hc) rfl)<|.g rfl rfl bq4 (fun hc => Qh Qkc (Qd0 (Q9 ht25 hc)) (.cons (.of (.cond z2 hc))<|.cons (.of (.cond z0 hc))<|.nil))<|.g rfl rfl bq5 (fun _ => Qe Qh8 z18)<|.g rfl rfl bq6 (fun hc => Qf (u := (s_).kind) tok3 (.cond z0 hc) rfl)<|.g rfl rfl bq7 (fun hc => Qam (.cond z2 hc) (.cond z0 hc))<|.o (Qao z8 (fun hp => (.cond z0 (beqF hp))))<|.p (T := QL.ty (Qq.mk (((!t7.2) || ((t7.1).Kind != (6:Int))) || (t25 != (s_).kind)) (13:Int))) rfl (QX Qek Qej Qei QdP (.cons (R := Qa5) (u := (((!t7.2) || ((t7.1).Kind != (6:Int))) || (t25 != (s_).kind))) rfl z0 (leb rfl)<|.cons (R := rI) (u := (13:Int)) rfl .k (leb rfl)<|.nil _))<|.o (QE (R := QL) (us := [(Qq.mk t11 (12:Int)),(Qq.mk (((!t7.2) || ((t7.1).Kind != (6:Int))) || (t25 != (s_).kind)) (13:Int))]) Qgk Qd6 (.cons z18<|.cons z0<|.nil _) rfl (leb rfl))<|.o (Qh QfV (Qa6 ht32) (.cons (.of z0)<|.nil))<|.o (Qa z0)<|.n) fun _ a w H => ?_
 have H := H.to [23] [_] [] rfl rfl
 refine wp_ret ?_
 obtain rfl := sj h
 exact rt undef [] hpl H (.tmp z0 .nil)

/- diorama/typing.checks$7 -/
noncomputable def QbW (s_ : QH) : Option (Int) := (QbU s_).bind fun t8 => (Qbm s_).bind fun t35 => (Qae [(Qq.mk t35 (12:Int)),(Qq.mk ((!t8.2) || (!((((((t8.1).Kind == (2:Int)) || ((t8.1).Kind == (3:Int))) || ((t8.1).Kind == (4:Int))) || ((t8.1).Kind == (5:Int))) || ((t8.1).Kind == (8:Int))))) (13:Int))]).bind fun t45 => (some t45)
theorem QlF {s_ : QH} {r : Int} (h : QbW s_ = some r) : FnOk Tryz.prog 216 [QW.ty s_] [] (fun _ => []) (fun _ => ti r) := by
 unfold QbW at h
 refine fe Tryz.func216 Tryz.ntmps216 fun M0 M w0 a hpl H => ?_
 replace H : St M w0 46 [(0,QW.ty s_)] [] a w0 := H
 refine sr mx [] H (fun _ => .o (QT (R := QW) (u := s_) z0)<|.o (Qa .k)<|.n) fun _ a w H => ?_
 have H := H.to [0] [_] [] rfl rfl
 have ⟨t8,ht8,h⟩ := bs h
 refine sr mx [v1 5 (fun v0 => box (Qd.cs zz0) v0),v1 5 (fun v0 => box (Qd.cs t8.1) v0)] H (fun _ => .o (Qr Qlr z0)<|.o (Qh Qq7 (Qiz ht8) (.cons (.of z0)<|.nil))<|.q 0 rfl<|.o (QM z0 rfl)<|.o (QM z1 rfl)<|.m [] [0] rfl rfl rfl (Q1 (R := Qd) (a := zz0) QS Qeh)<|.e [] [0] [1] rfl rfl rfl rfl (QR (R := Qd) (a := t8.1) QS z0 z2 (leb rfl))<|.o (Qa z1)<|.n) fun _ a w H => ?_
 replace H : St _ _ _ [_,_,_] [] _ _ := (((H.pick [5,6,7]).shareB 0 rfl).add 0 rfl (fun _ _ _ h => h.2)).pick [0,3,4]
 refine sr mx [] H (fun _ => .o (Qe QaX z0)<|.o (Qf (u := (t8.1).Kind) tok3 z0 rfl)<|.o (Q4 z0 .k)<|.q 0 rfl<|.g rfl rfl bq0 (fun _ => Qe QaX z4)<|.g rfl rfl bq1 (fun hc => Qf (u := (t8.1).Kind) tok3 (.cond z0 hc) rfl)<|.g rfl rfl bq2 (fun hc => Q4 (.cond z0 hc) .k)<|.o (Qao z3 (fun hp => (.cond z0 (beqF hp))))<|.q 0 rfl<|.g rfl rfl bq0 (fun _ => Qe QaX z9)<|.g rfl rfl bq1 (fun hc => Qf (u := (t8.1).Kind) tok3 (.cond z0 hc) rfl)<|.g rfl rfl bq2 (fun hc => Q4 (.cond z0 hc) .k)<|.o (Qao z3 (fun hp => (.cond z0 (beqF hp))))<|.q 0 rfl<|.g rfl rfl bq0 (fun _ => Qe QaX z14)<|.g rfl rfl bq1 (fun hc => Qf (u := (t8.1).Kind) tok3 (.cond z0 hc) rfl)<|.g rfl rfl bq2 (fun hc => Q4 (.cond z0 hc) .k)<|.o (Qao z3 (fun hp => (.cond z0 (beqF hp))))<|.q 0 rfl<|.g rfl rfl bq0 (fun _ => Qe QaX z19)<|.g rfl rfl bq1 (fun hc => Qf (u := (t8.1).Kind) tok3 (.cond z0 hc) rfl)<|.g rfl rfl bq2 (fun hc => Q4 (.cond z0 hc) .k)<|.o (Qao z3 (fun hp => (.cond z0 (beqF hp))))<|.o (Qa z0)<|.n) fun _ a w H => ?_
 have H := H.to [23,25,26] [_,_,_] [] rfl rfl
 have ⟨t35,ht35,h⟩ := bs h
 have ⟨t45,ht45,h⟩ := bs h
 refine sr mx [] H (fun _ => .o (Qr Qlr z2)<|.o (Qh Qob (QfH ht35) (.cons (.of z0)<|.nil))<|.p (T := QL.ty (Qq.mk t35 (12:Int))) rfl (QX Qek Qej Qei QdP (.cons (R := Qa5) (u := t35) rfl z0 (leb rfl)<|.cons (R := rI) (u := (12:Int)) rfl .k (leb rfl)<|.nil _))<|.q 4 rfl<|.o (Qar z0)<|.q 0 rfl<|.g rfl rfl bq0 (fun _ => Qw z6)<|.g rfl rfl bq1 (fun hc => Qar (.cond z0 hc))<|.o (Qao z2 (fun hp => (.cond z0 (beqF hp))))<|.p (T := QL.ty (Qq.mk ((!t8.2) || (!((((((t8.1).Kind == (2:Int)) || ((t8.1).Kind == (3:Int))) || ((t8.1).Kind == (4:Int))) || ((t8.1).Kind == (5:Int))) || ((t8.1).Kind == (8:Int))))) (13:Int))) rfl (QX Qek Qej Qei QdP (.cons (R := Qa5) (u := ((!t8.2) || (!((((((t8.1).Kind == (2:Int)) || ((t8.1).Kind == (3:Int))) || ((t8.1).Kind == (4:Int))) || ((t8.1).Kind == (5:Int))) || ((t8.1).Kind == (8:Int)))))) rfl z0 (leb rfl)<|.cons (R := rI) (u := (13:Int)) rfl .k (leb rfl)<|.nil _))<|.o (QE (R := QL) (us := [(Qq.mk t35 (12:Int)),(Qq.mk ((!t8.2) || (!((((((t8.1).Kind == (2:Int)) || ((t8.1).Kind == (3:Int))) || ((t8.1).Kind == (4:Int))) || ((t8.1).Kind == (5:Int))) || ((t8.1).Kind == (8:Int))))) (13:Int))]) Qgk Qd6 (.cons z7<|.cons z0<|.nil _) rfl (leb rfl))<|.o (Qh QfV (Qa6 ht45) (.cons (.of z0)<|.nil))<|.o (Qa z0)<|.n) fun _ a w H => ?_
 have H := H.to [12] [_] [] rfl rfl
 refine wp_ret ?_
 obtain rfl := sj h
 exact rt undef [] hpl H (.tmp z0 .nil)

noncomputable def Qbe (i : Int) : Option (QH → Option Int) := if i = 0 then some QbP else if i = 1 then some QbQ else if i = 4 then some QbR else if i = 5 then some QbS else if i = 6 then some QbT else if i = 7 then some QbV else if i = 8 then some QbW else none
theorem QsF {Γ : List (Nat × Ty)} {d : Option Tmp} {ty : TypeId} {pos : String} {af : Array Edge} {g : Option (Nat × Bool)} {x y : Operand} {i : Int} (hx : Fct Γ x Qsk) (hi : Fct Γ y (tv (.int .i64 i))) :
  OpJ Tryz.prog ⟨d,.lookup 131 x y true,ty,pos,af,g⟩ Γ [] [] (fun _ => []) (fun _ => ttup [QdT.ty (Qb3.mk (Qbe i)),tv (.bool (Qbe i).isSome)]) := by
 have key : (Qca Qis i).isSome = (Qbe i).isSome ∧ ∀ F w,(QdT.ty (Qb3.mk (Qbe i))).ok F w ((Qca Qis i).getD (.agg #[.nilFunc])) := by
  unfold Qbe
  by_cases h0 : i = 0
  ·subst h0; exact ⟨rfl,fun F w => ⟨_,rfl,.cons ⟨207,[],[],[],[],rfl,.nil,.nil,QvD,fun _ _ hq => Qlz hq⟩ .nil⟩⟩
  by_cases h1 : i = 1
  ·subst h1; exact ⟨rfl,fun F w => ⟨_,rfl,.cons ⟨208,[],[],[],[],rfl,.nil,.nil,QvE,fun _ _ hq => QlA hq⟩ .nil⟩⟩
  by_cases h4 : i = 4
  ·subst h4; exact ⟨rfl,fun F w => ⟨_,rfl,.cons ⟨209,[],[],[],[],rfl,.nil,.nil,QvF,fun _ _ hq => QlB hq⟩ .nil⟩⟩
  by_cases h5 : i = 5
  ·subst h5; exact ⟨rfl,fun F w => ⟨_,rfl,.cons ⟨210,[],[],[],[],rfl,.nil,.nil,QvG,fun _ _ hq => QlC hq⟩ .nil⟩⟩
  by_cases h6 : i = 6
  ·subst h6; exact ⟨rfl,fun F w => ⟨_,rfl,.cons ⟨212,[],[],[],[],rfl,.nil,.nil,QvI,fun _ _ hq => QlD hq⟩ .nil⟩⟩
  by_cases h7 : i = 7
  ·subst h7; exact ⟨rfl,fun F w => ⟨_,rfl,.cons ⟨214,[],[],[],[],rfl,.nil,.nil,QvK,fun _ _ hq => QlE hq⟩ .nil⟩⟩
  by_cases h8 : i = 8
  ·subst h8; exact ⟨rfl,fun F w => ⟨_,rfl,.cons ⟨216,[],[],[],[],rfl,.nil,.nil,QvL,fun _ _ hq => QlF hq⟩ .nil⟩⟩
  simp only [Qca,Qis,if_neg h0,if_neg h1,if_neg h4,if_neg h5,if_neg h6,if_neg h7,if_neg h8]
  exact ⟨rfl,fun F w => ⟨_,rfl,.cons rfl .nil⟩⟩
 have h := QtJ (P := Tryz.prog) (Γ := Γ) (d := d) (ty := ty) (pos := pos) (af := af) (g := g) (V := fun _ => QdT.ty (Qb3.mk (Qbe i))) Tryz.underlying131 ud3 zv129 hx hi key.2
 rw [key.1] at h
 exact h
/- diorama/typing.Check -/
noncomputable def QdC (x_ : Qg) : Option ((List Qn)) := (QdB x_).bind fun t18 => (if (t18 != (0:Int)) = true then (some [(Qn.mk (-1:Int) (-1:Int) (-1:Int) t18)]) else (QI (fun (s12 : Int × List Qn) => ((if (decide (s12.1 < ((x_).Lives.length : Int))) = true then (idx (x_).Lives s12.1).bind fun t31 => (sub (x_).Lives (0:Int) s12.1).bind fun t36 => (Qaq t36 (fun x0 => Qdq x0 t31)).bind fun t38 => (Qae [(Qq.mk t38 (7:Int))]).bind fun t44 => (Qbs (-1:Int) s12.1 (-1:Int) t44 s12.2).bind fun t45 => (some (.inl ((IntKind.i64.wrap (s12.1 + (1:Int))),t45))) else (some (.inr s12.2))) : Option ((Int × List Qn) ⊕ ((List Qn))))) ((0:Int),([] : List Qn))).bind fun (p29 : (List Qn)) => (QI (fun (s33 : Int × List Qn) => ((if (decide (s33.1 < ((x_).Kinds.length : Int))) = true then (idx (x_).Kinds s33.1).bind fun t53 => (Qea x_ s33.1).bind fun t59 => (Qbs s33.1 (-1:Int) (-1:Int) t59 s33.2).bind fun t60 => (QI (fun (s182 : Int × List Qn) => ((if (decide (s182.1 < ((t53).Fields.length : Int))) = true then (idx (t53).Fields s182.1).bind fun t67 => (Qbo t53 (t67).Name).bind fun t72 => (Qae [(Qq.mk (decide (t72 < s182.1)) (7:Int))]).bind fun t77 => ((if ((Qbe (t67).Kind).isSome && (t77 == (0:Int))) = true then (QkH ((Qb3.mk (Qbe (t67).Kind))).check (QH.mk x_ s33.1 s182.1 t67)).bind fun t97 => (some t97) else (some t77))).bind fun (p226 : Int) => (Qbs s33.1 s182.1 (-1:Int) p226 s182.2).bind fun t102 => (some (.inl ((IntKind.i64.wrap (s182.1 + (1:Int))),t102))) else (some (.inr s182.2))) : Option ((Int × List Qn) ⊕ ((List Qn))))) ((0:Int),t60)).bind fun (p213 : (List Qn)) => (some (.inl ((IntKind.i64.wrap (s33.1 + (1:Int))),p213))) else (some (.inr s33.2))) : Option ((Int × List Qn) ⊕ ((List Qn))))) ((0:Int),p29)).bind fun (p148 : (List Qn)) => (QI (fun (s152 : Int × List Qn) => ((if (decide (s152.1 < ((x_).Rules.length : Int))) = true then (Qeb x_ s152.1).bind fun t115 => (Qbs (-1:Int) (-1:Int) s152.1 t115 s152.2).bind fun t116 => (some (.inl ((IntKind.i64.wrap (s152.1 + (1:Int))),t116))) else (some (.inr s152.2))) : Option ((Int × List Qn) ⊕ ((List Qn))))) ((0:Int),p148)).bind fun (p165 : (List Qn)) => (some p165))
theorem QnF {x_ : Qg} {r : (List Qn)} (h : QdC x_ = some r) : FnOk Tryz.prog 30 [Qm.ty x_] [glo] (fun _ => []) (fun _ => tsl QO r) := by
 unfold QdC at h
 refine fe Tryz.func30 Tryz.ntmps30 fun M0 M w0 a hpl H => ?_
 replace H : St M w0 119 [(0,Qm.ty x_)] [glo] a w0 := H
 refine sr mx [] H (fun _ => .o (QT (R := Qm) (u := x_) z0)<|.o (Qa (.nilsl (R := QO)))<|.n) fun _ a w H => ?_
 have H := H.to [0] [_] [_] rfl rfl
 refine wp_seq_k (fun _ k2 => ?_)
 have ⟨t18,ht18,h⟩ := bs h
 refine sr mx [] H (fun _ => .o (Qr QaR z0)<|.u [0] rfl rfl ((Qh call62 (QnE ht18) (.cons (.of z0)<|.nil)).glo)<|.o (Qa z0)<|.n) fun _ a w H => ?_
 have H := H.to [2,3] [_,_] [_] rfl rfl
 refine sr mx [] H (fun _ => .q 0 rfl<|.o (Qam z0 .k)<|.n) fun _ a w H => ?_
 have H := H.to [1,2,3] [_,_,_] [_] rfl rfl
 refine wi H h (fun b239 h => ?_) (fun b239 h => ?_)
 ·refine sr mx [] H (fun _ => .q 1 rfl<|.p (T := QO.ty (Qn.mk (-1:Int) (-1:Int) (-1:Int) t18)) rfl (QX Tryz.underlying119 pl119 zv119 zc119 (.cons (R := rI) (u := (-1:Int)) rfl .k (leb rfl)<|.cons (R := rI) (u := (-1:Int)) rfl .k (leb rfl)<|.cons (R := rI) (u := (-1:Int)) rfl .k (leb rfl)<|.cons (R := rI) (u := t18) rfl z0 (leb rfl)<|.nil _))<|.o (QE (R := QO) (us := [(Qn.mk (-1:Int) (-1:Int) (-1:Int) t18)]) ud68 Qnq (.cons z0<|.nil _) rfl (leb rfl))<|.o (Qa z0)<|.n) fun _ a w H => ?_
  have H := H.to [3] [_] [_] rfl rfl
  refine wp_ret ?_
  obtain rfl := sj h
  exact rt undef [] hpl H (.tmp z0 .nil)
 refine wp_skip (k2 _ _ ?_)
 refine sr mx [v1 0 (fun v0 => box (rVal.cs nilV) v0)] H (fun _ => .m [] [1] rfl rfl rfl (Qlq Qnu)<|.n) fun n4 a w H => ?_
 replace H : St _ _ _ [_,_] [_,_,_] _ _ := (H.pick [0,3]).nil (QO) 119
 refine sr mx [] H (fun _ => .o (QdK (.cons z0<|.nil))<|.o (Qa z0)<|.n) fun _ a w H => ?_
 have H := H.to [1,2,3] [_,_,_] [_,_,_] rfl rfl
 refine wp_seq_k (fun K10 k10 => ?_)
 refine sr mx [] H (fun _ => .o (Qe Qhc z2)<|.o (Qf (u := (x_).Lives) QkM z0 rfl)<|.o (QN ud24 z0)<|.o (Qw .k)<|.n) fun _ a w H => ?_
 have H := H.to [1,2,3,4,5,6] [_,_,_,_,_,_] [_,_,_] rfl rfl
 have ⟨e13,he13,h⟩ := bs h
 have hJp29 : ∀ (p29 : List Qn) (v30 : Value) a w,p29 = e13 → St M w0 119 [(5,QdN 63 [tv (n4 0)]),(4,tv (n4 0)),(1,tptr (Qm.cs x_))] [own QO 119 p29 v30,glo,box (rVal.cs v30) (n4 0)] a w → K10 a w := by
  intro p29 v30 a w he H
  subst he
  refine k10 _ _ ?_
  refine wp_seq_k (fun K31 k31 => ?_)
  refine sr mx [] H (fun _ => .o (Qe QaJ z2)<|.o (Qf (u := (x_).Kinds) Qdp z0 rfl)<|.o (QN ud23 z0)<|.o (Qw .k)<|.n) fun _ a w H => ?_
  have H := H.to [1,2,3,4,5,6] [_,_,_,_,_,_] [_,_,_] rfl rfl
  have ⟨e34,he34,h⟩ := bs h
  have hJp148 : ∀ (p148 : List Qn) (v149 : Value) a w,p148 = e34 → St M w0 119 [(5,QdN 63 [tv (n4 0)]),(4,tv (n4 0)),(1,tptr (Qm.cs x_))] [own QO 119 p148 v149,glo,box (rVal.cs v149) (n4 0)] a w → K31 a w := by
   intro p148 v149 a w he H
   subst he
   refine k31 _ _ ?_
   refine wp_seq_k (fun K150 k150 => ?_)
   refine sr mx [] H (fun _ => .o (Qe Qgf z2)<|.o (Qf (u := (x_).Rules) QkN z0 rfl)<|.o (QN ud25 z0)<|.o (Qw .k)<|.n) fun _ a w H => ?_
   have H := H.to [2,3,4,5,6] [_,_,_,_,_] [_,_,_] rfl rfl
   have ⟨e153,he153,h⟩ := bs h
   have hJp165 : ∀ (p165 : List Qn) (v166 : Value) a w,p165 = e153 → St M w0 119 [(4,tv (n4 0))] [own QO 119 p165 v166,glo,box (rVal.cs v166) (n4 0)] a w → K150 a w := by
    intro p165 v166 a w he H
    subst he
    refine k150 _ _ ?_
    refine sr mx [] H (fun _ => .u [2] rfl rfl (Qg9 Qnu z0)<|.o (Qa z0)<|.n) fun _ a w H => ?_
    replace H : St _ _ _ [_,_] [_,_] _ _ := (H.pick [0,1]).selA [0,1] rfl
    refine wp_ret ?_
    replace H : St _ _ _ [_] [_] _ _ := (H.shareO 1 rfl).pick [0]
    obtain rfl := sj h
    exact rt undef [] hpl H (.tmp z0 .nil)
   refine wp_block ?_
   refine QZ _ (fun (s152 : Int × List Qn) a w => ∃ v159 : Value,St M w0 119 [(107,ti ((x_).Rules.length : Int)),(108,ti s152.1),(5,QdN 63 [tv (n4 0)]),(4,tv (n4 0)),(1,tptr (Qm.cs x_))] [own QO 119 s152.2 v159,glo,box (rVal.cs v159) (n4 0)] a w) _ _ he153 ⟨v149,H.pick [0,1,2,3,4]⟩ ?_
   clear h
   intro s152 o a w K168 hI h ho k168
   obtain ⟨v159,H⟩ := hI
   refine sr mx [] H (fun _ => .o (QU z1 z0)<|.n) fun _ a w H => ?_
   have H := H.to [0,1,2,3,4,5] [_,_,_,_,_,_] [_,_,_] rfl rfl
   refine wp_seq_k (fun _ k170 => ?_)
   refine wi H h (fun b173 h => ?_) (fun b173 h => ?_)
   ·refine wp_skip (k170 _ _ ?_)
    refine wp_seq_k (fun _ k171 => ?_)
    refine wp_block ?_
    refine sr mx [] H (fun _ => .q 2 rfl<|.o (Qa z0)<|.n) fun _ a w H => ?_
    have H := H.to [1,3,4,5,6,7] [_,_,_,_,_,_] [_,_,_] rfl rfl
    have ⟨t115,ht115,h⟩ := bs h
    have ⟨t116,ht116,h⟩ := bs h
    refine wr mx [v1 5 (fun v0 => box (rVal.cs v0) (n4 0)),v1 5 (fun v0 => own QO 119 t116 v0)] H (fun _ => .q 3 rfl<|.q 1 rfl<|.o (Qr QaR z7)<|.q 3 rfl<|.o (Qh call69 (Qoe ht115) (.cons (.of z1)<|.cons (.of z0)<|.nil))<|.e [] [2,0] [3,4] rfl rfl rfl rfl (Qh3 Qny (QeO ht116) z4 (.cons (.of .k)<|.cons (.of .k)<|.cons (.of z3)<|.cons (.of z0)<|.nil))<|.n) fun n29 a w H => ?_
    have H := H.to [7,8,9,10,11] [_,_,_,_,_] [_,_,_] rfl rfl
    refine k171 _ _ ?_
    refine wr mx [] H (fun _ => .o (QV z1 .k)<|.q 0 rfl<|.n) fun _ a w H => ?_
    have H := H.to [1,2,3,4,5] [_,_,_,_,_] [_,_,_] rfl rfl
    exact k168 _ _ _ (sj h).symm ⟨(n29 5),(H.pick [1,0,2,3,4]).selA [2,0,1] rfl⟩
   refine wp_exit ?_
   exact hJp165 _ v159 _ _ (ho _ (sj h).symm) (H.pick [4])
  refine wp_block ?_
  refine QZ _ (fun (s33 : Int × List Qn) a w => ∃ v91 : Value,St M w0 119 [(48,tsl Qk (x_).Kinds),(49,ti ((x_).Kinds.length : Int)),(50,ti s33.1),(5,QdN 63 [tv (n4 0)]),(4,tv (n4 0)),(1,tptr (Qm.cs x_))] [own QO 119 s33.2 v91,glo,box (rVal.cs v91) (n4 0)] a w) _ _ he34 ⟨v30,H.pick [0,1,2,3,4,5]⟩ ?_
  clear h
  intro s33 o a w K174 hI h ho k174
  obtain ⟨v91,H⟩ := hI
  refine sr mx [] H (fun _ => .o (QU z2 z1)<|.n) fun _ a w H => ?_
  have H := H.to [0,1,2,3,4,5,6] [_,_,_,_,_,_,_] [_,_,_] rfl rfl
  refine wp_seq_k (fun _ k176 => ?_)
  refine wi H h (fun b230 h => ?_) (fun b230 h => ?_)
  ·refine wp_skip (k176 _ _ ?_)
   refine wp_seq_k (fun K177 k177 => ?_)
   refine wp_block ?_
   have ⟨t53,ht53,h⟩ := bs h
   refine sr mx [v1 3 (fun v0 => box (Qk.cs zz1) v0),v1 3 (fun v0 => box (Qk.cs t53) v0)] H (fun _ => .q 3 rfl<|.o (QG ud23 Q7 z2 z4 ht53)<|.o (Qr Q7 z0)<|.m [] [3] rfl rfl rfl (Q1 (R := Qk) (a := zz1) Q7 QiY)<|.o (Qa z3)<|.e [] [3] [4] rfl rfl rfl rfl (QR (R := Qk) (a := t53) Q7 z1 z2 (leb rfl))<|.n) fun _ a w H => ?_
   replace H : St _ _ _ [_,_,_,_,_,_,_,_] [_,_,_] _ _ := ((((H.pick [3,4,6,7,8,9,10,11]).selA [3,0,1,2] rfl).shareB 0 rfl).add 0 rfl (fun _ _ _ h => h.2)).pick [0,3,4,5,6,7,8,9]
   have ⟨t59,ht59,h⟩ := bs h
   have ⟨t60,ht60,h⟩ := bs h
   refine sr mx [v1 5 (fun v0 => box (rVal.cs v0) (n4 0)),v1 5 (fun v0 => own QO 119 t60 v0)] H (fun _ => .q 5 rfl<|.q 2 rfl<|.o (Qr QaR z9)<|.q 4 rfl<|.o (Qh call67 (Qod ht59) (.cons (.of z1)<|.cons (.of z0)<|.nil))<|.e [] [2,0] [3,4] rfl rfl rfl rfl (Qh3 Qny (QeO ht60) z4 (.cons (.of z3)<|.cons (.of .k)<|.cons (.of .k)<|.cons (.of z0)<|.nil))<|.n) fun n15 a w H => ?_
   have H := H.to [6,7,8,9,10,11,12,13] [_,_,_,_,_,_,_,_] [_,_,_] rfl rfl
   refine sr mx [] H (fun _ => .o (Qe Qap z0)<|.o (Qf (u := (t53).Fields) Qc8 z0 rfl)<|.o (QN ud53 z0)<|.o (Qw .k)<|.n) fun _ a w H => ?_
   have H := H.to [1,2,3,4,5,6,7,8,9,10,11] [_,_,_,_,_,_,_,_,_,_,_] [_,_,_] rfl rfl
   have ⟨e183,he183,h⟩ := bs h
   have hJp213 : ∀ (p213 : List Qn) (v214 : Value) a w,p213 = e183 → St M w0 119 [(48,tsl Qk (x_).Kinds),(49,ti ((x_).Kinds.length : Int)),(50,ti s33.1),(5,QdN 63 [tv (n4 0)]),(4,tv (n4 0)),(1,tptr (Qm.cs x_))] [glo,box (rVal.cs v214) (n4 0),own QO 119 p213 v214] a w → K177 a w := by
    intro p213 v214 a w he H
    subst he
    refine k177 _ _ ?_
    refine wr mx [] H (fun _ => .o (QV z2 .k)<|.q 0 rfl<|.n) fun _ a w H => ?_
    have H := H.to [1,2,3,4,5,6] [_,_,_,_,_,_] [_,_,_] rfl rfl
    exact k174 _ _ _ (sj h).symm ⟨v214,(H.pick [1,2,0,3,4,5]).selA [2,0,1] rfl⟩
   refine wp_block ?_
   refine QZ _ (fun (s182 : Int × List Qn) a w => ∃ v198 : Value,St M w0 119 [(62,tsl Qd (t53).Fields),(63,ti ((t53).Fields.length : Int)),(64,ti s182.1),(10,tptr (Qk.cs t53)),(9,ti s33.1),(48,tsl Qk (x_).Kinds),(49,ti ((x_).Kinds.length : Int)),(50,ti s33.1),(5,QdN 63 [tv (n4 0)]),(4,tv (n4 0)),(1,tptr (Qm.cs x_))] [glo,box (rVal.cs v198) (n4 0),own QO 119 s182.2 v198] a w) _ _ he183 ⟨(n15 5),H.pick [0,1,2,3,4,5,6,7,8,9,10]⟩ ?_
   clear h
   intro s182 o a w K215 hI h ho k215
   obtain ⟨v198,H⟩ := hI
   refine sr mx [] H (fun _ => .o (QU z2 z1)<|.n) fun _ a w H => ?_
   have H := H.to [0,1,2,3,4,5,6,7,8,9,10,11] [_,_,_,_,_,_,_,_,_,_,_,_] [_,_,_] rfl rfl
   refine wp_seq_k (fun _ k217 => ?_)
   refine wi H h (fun b229 h => ?_) (fun b229 h => ?_)
   ·refine wp_skip (k217 _ _ ?_)
    refine wp_seq_k (fun _ k218 => ?_)
    refine wp_block ?_
    have ⟨t67,ht67,h⟩ := bs h
    refine sr mx [v1 3 (fun v0 => box (Qd.cs zz0) v0),v1 3 (fun v0 => box (Qd.cs t67) v0)] H (fun _ => .q 3 rfl<|.o (QG ud53 QS z2 z4 ht67)<|.o (Qr QS z0)<|.m [] [3] rfl rfl rfl (Q1 (R := Qd) (a := zz0) QS Qeh)<|.o (Qa z3)<|.e [] [3] [4] rfl rfl rfl rfl (QR (R := Qd) (a := t67) QS z1 z2 (leb rfl))<|.n) fun _ a w H => ?_
    replace H : St _ _ _ [_,_,_,_,_,_,_,_,_,_,_,_,_] [_,_,_] _ _ := ((((H.pick [3,4,6,7,8,9,10,11,12,13,14,15,16]).selA [3,0,1,2] rfl).shareB 0 rfl).add 0 rfl (fun _ _ _ h => h.2)).pick [0,3,4,5,6,7,8,9,10,11,12,13,14]
    have ⟨t72,ht72,h⟩ := bs h
    have ⟨t77,ht77,h⟩ := bs h
    refine sr mx [] H (fun _ => .o (Qr Q7 z5)<|.o (Qe Qce z1)<|.o (Qf (u := (t67).Name) tok9 z0 rfl)<|.o (Qh Qls (Qez ht72) (.cons (.of z2)<|.cons (.of z0)<|.nil))<|.q 5 rfl<|.o (QU z1 z0)<|.p (T := QL.ty (Qq.mk (decide (t72 < s182.1)) (7:Int))) rfl (QX Qek Qej Qei QdP (.cons (R := Qa5) (u := (decide (t72 < s182.1))) rfl z0 (leb rfl)<|.cons (R := rI) (u := (7:Int)) rfl .k (leb rfl)<|.nil _))<|.o (QE (R := QL) (us := [(Qq.mk (decide (t72 < s182.1)) (7:Int))]) Qgk Qd6 (.cons z0<|.nil _) rfl (leb rfl))<|.o (Qh QfV (Qa6 ht77) (.cons (.of z0)<|.nil))<|.o (Qa z0)<|.n) fun _ a w H => ?_
    have H := H.to [9,10,11,12,13,14,15,16,17,18,19,20,21,22] [_,_,_,_,_,_,_,_,_,_,_,_,_,_] [_,_,_] rfl rfl
    refine wp_seq_k (fun K222 k222 => ?_)
    refine sr mx [v1 7 (fun v0 => box (QdT.cs (Qb3.mk none)) v0),v1 7 (fun v0 => box (QdT.cs (Qb3.mk (Qbe (t67).Kind))) v0)] H (fun _ => .u [0] rfl rfl (QtH (R := rMapC Qis) (u := ()) QtN tokM0 rfl)<|.o (Qe QaX z2)<|.o (Qf (u := (t67).Kind) tok3 z0 rfl)<|.o (QsF z2 z0)<|.q 0 rfl<|.o (QM z0 rfl)<|.o (QM z1 rfl)<|.m [] [3] rfl rfl rfl (Q1 (R := QdT) (a := (Qb3.mk none)) Qsn zok129)<|.e [] [3] [4] rfl rfl rfl rfl (QR (R := QdT) (a := (Qb3.mk (Qbe (t67).Kind))) Qsn z0 z2 (leb rfl))<|.o (Qa z1)<|.n) fun _ a w H => ?_
    replace H : St _ _ _ [_,_,_,_,_,_,_,_,_,_,_,_,_,_,_,_] [_,_,_] _ _ := ((((H.pick [7,8,9,10,11,12,13,14,15,16,17,18,19,20,21,22]).selA [3,0,1,2] rfl).shareB 0 rfl).add 0 rfl (fun _ _ _ h => h.2)).pick [0,3,4,5,6,7,8,9,10,11,12,13,14,15,16,17]
    refine sr mx [] H (fun _ => .q 1 rfl<|.q 0 rfl<|.g rfl rfl bq0 (fun _ => Qw z4)<|.g rfl rfl bq1 (fun hc => Q4 (.cond z0 hc) .k)<|.o (QY z2 (fun hp => (.cond z0 (beqT hp))))<|.n) fun _ a w H => ?_
    have H := H.to [4,5,7,8,9,10,11,12,13,14,15,16,17,18,19,20] [_,_,_,_,_,_,_,_,_,_,_,_,_,_,_,_] [_,_,_] rfl rfl
    have ⟨p226,hp226,h⟩ := bs h
    have hJp226 : ∀ a w,St M w0 119 [(13,ti p226),(11,ti s182.1),(62,tsl Qd (t53).Fields),(63,ti ((t53).Fields.length : Int)),(64,ti s182.1),(10,tptr (Qk.cs t53)),(9,ti s33.1),(48,tsl Qk (x_).Kinds),(49,ti ((x_).Kinds.length : Int)),(50,ti s33.1),(5,QdN 63 [tv (n4 0)]),(4,tv (n4 0)),(1,tptr (Qm.cs x_))] [glo,box (rVal.cs v198) (n4 0),own QO 119 s182.2 v198] a w → K222 a w := by
     intro a w H
     refine k222 _ _ ?_
     have ⟨t102,ht102,h⟩ := bs h
     refine wr mx [v1 4 (fun v0 => box (rVal.cs v0) (n4 0)),v1 4 (fun v0 => own QO 119 t102 v0)] H (fun _ => .q 10 rfl<|.q 7 rfl<|.q 3 rfl<|.q 3 rfl<|.e [] [1,2] [3,4] rfl rfl rfl rfl (Qh3 Qny (QeO ht102) z3 (.cons (.of z2)<|.cons (.of z1)<|.cons (.of .k)<|.cons (.of z0)<|.nil))<|.n) fun n23 a w H => ?_
     have H := H.to [7,8,9,10,11,12,13,14,15,16,17] [_,_,_,_,_,_,_,_,_,_,_] [_,_,_] rfl rfl
     refine k218 _ _ ?_
     refine wr mx [] H (fun _ => .o (QV z2 .k)<|.q 0 rfl<|.n) fun _ a w H => ?_
     have H := H.to [1,2,3,4,5,6,7,8,9,10,11] [_,_,_,_,_,_,_,_,_,_,_] [_,_,_] rfl rfl
     exact k215 _ _ _ (sj h).symm ⟨(n23 4),H.pick [1,2,0,3,4,5,6,7,8,9,10]⟩
    replace h := hp226
    clear hp226
    refine wi H h (fun b228 h => ?_) (fun b228 h => ?_)
    ·have ⟨t97,ht97,h⟩ := bs h
     refine wr mx [] H (fun _ => .o (Qe QtZ z1)<|.o (Qf (u := ((Qb3.mk (Qbe (t67).Kind))).check) QtU z0 rfl)<|.o (Qr QaR z17)<|.q 12 rfl<|.q 8 rfl<|.o (Qr QS z8)<|.p (T := QW.ty (QH.mk x_ s33.1 s182.1 t67)) rfl (QX Tryz.underlying133 pl133 zv133 zc133 (.cons (R := Qm) (u := x_) rfl z3 (leb rfl)<|.cons (R := rI) (u := s33.1) rfl z2 (leb rfl)<|.cons (R := rI) (u := s182.1) rfl z1 (leb rfl)<|.cons (R := Qd) (u := t67) rfl z0 (leb rfl)<|.nil _))<|.o (QtI (u := (QH.mk x_ s33.1 s182.1 t67)) z5 (.cons (.of z0)<|.nil) ht97)<|.o (Qa z0)<|.n) fun _ a w H => ?_
     have H := H.to [8,12,13,14,15,16,17,18,19,20,21,22,23] [_,_,_,_,_,_,_,_,_,_,_,_,_] [_,_,_] rfl rfl
     obtain rfl := sj h
     exact hJp226 _ _ (H.pick [0,1,2,3,4,5,6,7,8,9,10,11,12])
    refine wp_skip ?_
    obtain rfl := sj h
    exact hJp226 _ _ (H.pick [2,4,5,6,7,8,9,10,11,12,13,14,15])
   refine wp_exit ?_
   exact hJp213 _ v198 _ _ (ho _ (sj h).symm) (H.pick [6,7,8,9,10,11])
  refine wp_exit ?_
  exact hJp148 _ v91 _ _ (ho _ (sj h).symm) (H.pick [4,5,6])
 refine wp_block ?_
 refine QZ _ (fun (s12 : Int × List Qn) a w => ∃ v21 : Value,St M w0 119 [(26,tsl QJ (x_).Lives),(27,ti ((x_).Lives.length : Int)),(28,ti s12.1),(5,QdN 63 [tv (n4 0)]),(4,tv (n4 0)),(1,tptr (Qm.cs x_))] [own QO 119 s12.2 v21,glo,box (rVal.cs v21) (n4 0)] a w) _ _ he13 ⟨nilV,H.pick [0,1,2,3,4,5]⟩ ?_
 clear h
 intro s12 o a w K231 hI h ho k231
 obtain ⟨v21,H⟩ := hI
 refine sr mx [] H (fun _ => .o (QU z2 z1)<|.n) fun _ a w H => ?_
 have H := H.to [0,1,2,3,4,5,6] [_,_,_,_,_,_,_] [_,_,_] rfl rfl
 refine wp_seq_k (fun _ k233 => ?_)
 refine wi H h (fun b238 h => ?_) (fun b238 h => ?_)
 ·refine wp_skip (k233 _ _ ?_)
  refine wp_seq_k (fun _ k234 => ?_)
  refine wp_block ?_
  have ⟨t31,ht31,h⟩ := bs h
  refine sr mx [v1 3 (fun v0 => box (QJ.cs zz2) v0),v1 3 (fun v0 => box (QJ.cs t31) v0)] H (fun _ => .q 3 rfl<|.o (QG ud24 Qex z2 z4 ht31)<|.o (Qr Qex z0)<|.m [] [3] rfl rfl rfl (Q1 (R := QJ) (a := zz2) Qex QrE)<|.o (Qa z3)<|.e [] [3] [4] rfl rfl rfl rfl (QR (R := QJ) (a := t31) Qex z1 z2 (leb rfl))<|.n) fun _ a w H => ?_
  replace H : St _ _ _ [_,_,_,_,_,_,_,_] [_,_,_] _ _ := ((((H.pick [3,4,6,7,8,9,10,11]).selA [3,0,1,2] rfl).shareB 0 rfl).add 0 rfl (fun _ _ _ h => h.2)).pick [0,3,4,5,6,7,8,9]
  have ⟨t36,ht36,h⟩ := bs h
  have ⟨t38,ht38,h⟩ := bs h
  refine sr mx [] H (fun _ => .o (Qe Qhc z7)<|.o (Qf (u := (x_).Lives) QkM z0 rfl)<|.q 3 rfl<|.o (QgU ud24 Qex z1 (.no _) (.op z0) ht36)<|.o (QdK (.cons z4<|.nil))<|.o (Qh Qp3 (Qdg ht38) (.cons (.of z1)<|.cons (.of (Fct.weak z0 (Qb1 call65 (fun _ _ hq => Qmr hq))))<|.nil))<|.o (Qa z0)<|.n) fun _ a w H => ?_
  have H := H.to [6,8,9,10,11,12,13,14] [_,_,_,_,_,_,_,_] [_,_,_] rfl rfl
  have ⟨t44,ht44,h⟩ := bs h
  have ⟨t45,ht45,h⟩ := bs h
  refine wr mx [v1 6 (fun v0 => box (rVal.cs v0) (n4 0)),v1 6 (fun v0 => own QO 119 t45 v0)] H (fun _ => .q 5 rfl<|.q 2 rfl<|.q 2 rfl<|.p (T := QL.ty (Qq.mk t38 (7:Int))) rfl (QX Qek Qej Qei QdP (.cons (R := Qa5) (u := t38) rfl z0 (leb rfl)<|.cons (R := rI) (u := (7:Int)) rfl .k (leb rfl)<|.nil _))<|.o (QE (R := QL) (us := [(Qq.mk t38 (7:Int))]) Qgk Qd6 (.cons z0<|.nil _) rfl (leb rfl))<|.o (Qh QfV (Qa6 ht44) (.cons (.of z0)<|.nil))<|.e [] [2,0] [3,4] rfl rfl rfl rfl (Qh3 Qny (QeO ht45) z5 (.cons (.of .k)<|.cons (.of z4)<|.cons (.of .k)<|.cons (.of z0)<|.nil))<|.n) fun n10 a w H => ?_
  have H := H.to [9,10,11,12,13,14] [_,_,_,_,_,_] [_,_,_] rfl rfl
  refine k234 _ _ ?_
  refine wr mx [] H (fun _ => .o (QV z2 .k)<|.q 0 rfl<|.n) fun _ a w H => ?_
  have H := H.to [1,2,3,4,5,6] [_,_,_,_,_,_] [_,_,_] rfl rfl
  exact k231 _ _ _ (sj h).symm ⟨(n10 6),(H.pick [1,2,0,3,4,5]).selA [2,0,1] rfl⟩
 refine wp_exit ?_
 exact hJp29 _ v21 _ _ (ho _ (sj h).symm) (H.pick [4,5,6])

/- diorama/counts.wrong -/
noncomputable def QdD (x_ : Qg) : Option (Int) := (QdC x_).bind fun t5 => (if (decide ((t5.length : Int) > (0:Int))) = true then (idx t5 (0:Int)).bind fun t10 => (some (t10).Code) else (some (0:Int)))
theorem QnG {x_ : Qg} {r : Int} (h : QdD x_ = some r) : FnOk Tryz.prog 36 [Qm.ty x_] [glo] (fun _ => []) (fun _ => ti r) := by
 unfold QdD at h
 refine fe Tryz.func36 Tryz.ntmps36 fun M0 M w0 a hpl H => ?_
 replace H : St M w0 13 [(0,Qm.ty x_)] [glo] a w0 := H
 refine sr mx [] H (fun _ => .o (QT (R := Qm) (u := x_) z0)<|.o (Qa .k)<|.n) fun _ a w H => ?_
 have H := H.to [0] [_] [_] rfl rfl
 refine wp_seq_k (fun _ k2 => ?_)
 have ⟨t5,ht5,h⟩ := bs h
 refine sr mx [] H (fun _ => .o (Qr QaR z0)<|.u [0] rfl rfl ((Qh call30 (QnF ht5) (.cons (.of z0)<|.nil)).glo)<|.o (Qa z0)<|.n) fun _ a w H => ?_
 have H := H.to [2] [_] [_] rfl rfl
 refine sr mx [] H (fun _ => .q 0 rfl<|.o (QN ud68 z0)<|.o (Qcf z0 .k)<|.n) fun _ a w H => ?_
 have H := H.to [2,3] [_,_] [_] rfl rfl
 refine wi H h (fun b7 h => ?_) (fun b7 h => ?_)
 ·have ⟨t10,ht10,h⟩ := bs h
  refine sr mx [] H (fun _ => .q 1 rfl<|.o (QG ud68 Qnq z0 .k ht10)<|.o (Qe QtW z0)<|.o (Qf (u := (t10).Code) Qps z0 rfl)<|.o (Qa z0)<|.n) fun _ a w H => ?_
  have H := H.to [4] [_] [_] rfl rfl
  refine wp_ret ?_
  obtain rfl := sj h
  exact rt undef [] hpl H (.tmp z0 .nil)
 refine wp_skip (k2 _ _ ?_)
 refine sr mx [] H (fun _ => .o (Qa .k)<|.n) fun _ a w H => ?_
 have H := H.to [0] [_] [_] rfl rfl
 refine wp_ret ?_
 obtain rfl := sj h
 exact rt undef [] hpl H (.tmp z0 .nil)

/- diorama/counts.Limits$1 -/
noncomputable def QbX (name_ : Str) (a_ : Int) (b_ : Int) (lo_ : Int) (hi_ : Int) (c0_ : (List Qb)) (c1_ : (List Str)) : Option ((List Qb) × (List Str)) := (rm (c0_.length + [(Qb.mk a_ b_ lo_ true),(Qb.mk a_ b_ hi_ false)].length)).bind fun _ => (cat (name_.length + ([32,108,101,97,115,116] : Str).length)).bind fun _ => (cat (name_.length + ([32,109,111,115,116] : Str).length)).bind fun _ => (rm (c1_.length + [(name_ ++ ([32,108,101,97,115,116] : Str)),(name_ ++ ([32,109,111,115,116] : Str))].length)).bind fun _ => (some ((c0_ ++ [(Qb.mk a_ b_ lo_ true),(Qb.mk a_ b_ hi_ false)]),(c1_ ++ [(name_ ++ ([32,108,101,97,115,116] : Str)),(name_ ++ ([32,109,111,115,116] : Str))])))
theorem QiA {q5 : Value} {vh5 : Value} {q6 : Value} {vh6 : Value} {name_ : Str} {a_ : Int} {b_ : Int} {lo_ : Int} {hi_ : Int} {c0_ : (List Qb)} {c1_ : (List Str)} {r : (List Qb) × (List Str)} (h : QbX name_ a_ b_ lo_ hi_ c0_ c1_ = some r) : FnOk Tryz.prog 37 [tv (.string (sB name_)),ti a_,ti b_,ti lo_,ti hi_,tv q5,tv q6] [box (rVal.cs vh5) q5,own Qj 43 c0_ vh5,box (rVal.cs vh6) q6,own rS 9 c1_ vh6] (fun v => [box (rVal.cs (gh v 0)) q5,own Qj 43 r.1 (gh v 0),box (rVal.cs (gh v 1)) q6,own rS 9 r.2 (gh v 1)]) (fun _ => ttup []) := by
 unfold QbX at h
 refine fe Tryz.func37 Tryz.ntmps37 fun M0 M w0 a hpl H => ?_
 replace H : St M w0 30 [(0,tv (.string (sB name_))),(1,ti a_),(2,ti b_),(3,ti lo_),(4,ti hi_),(5,tv q5),(6,tv q6)] [box (rVal.cs vh5) q5,own Qj 43 c0_ vh5,box (rVal.cs vh6) q6,own rS 9 c1_ vh6] a w0 := H
 refine wp_seq_k (fun _ k5 => ?_)
 have ⟨u22,hu22,h⟩ := bs h
 refine wr mx [v1 10 (fun v0 => own Qj 43 (c0_ ++ [(Qb.mk a_ b_ lo_ true),(Qb.mk a_ b_ hi_ false)]) v0),v1 10 (fun v0 => box (rVal.cs v0) q5)] H (fun _ => .u [0] rfl rfl (Qg9 Qns z5)<|.q 2 rfl<|.q 4 rfl<|.q 6 rfl<|.p (T := Qj.ty (Qb.mk a_ b_ lo_ true)) rfl (QX Tryz.underlying43 pl43 zv43 zc43 (.cons (R := rI) (u := a_) rfl z2 (leb rfl)<|.cons (R := rI) (u := b_) rfl z1 (leb rfl)<|.cons (R := rI) (u := lo_) rfl z0 (leb rfl)<|.cons (R := Qa5) (u := true) rfl .k (leb rfl)<|.nil _))<|.q 6 rfl<|.q 8 rfl<|.q 11 rfl<|.p (T := Qj.ty (Qb.mk a_ b_ hi_ false)) rfl (QX Tryz.underlying43 pl43 zv43 zc43 (.cons (R := rI) (u := a_) rfl z2 (leb rfl)<|.cons (R := rI) (u := b_) rfl z1 (leb rfl)<|.cons (R := rI) (u := hi_) rfl z0 (leb rfl)<|.cons (R := Qa5) (u := false) rfl .k (leb rfl)<|.nil _))<|.o (QE (R := Qj) (us := [(Qb.mk a_ b_ lo_ true),(Qb.mk a_ b_ hi_ false)]) ud31 QaE (.cons z4<|.cons z0<|.nil _) rfl (leb rfl))<|.e [] [1] [4] rfl rfl rfl rfl (Qaf (R := Qj) ud31 QaE (leb rfl) z9 z0 hu22)<|.e [4] [0] [5] rfl rfl rfl rfl (QjV (R := Qj) (e := 43) (Ts := (rVal.cs vh5)) Qns z16 z0 (leb rfl))<|.n) fun n0 a w H => ?_
 have H := H.to [10,11,16,17] [_,_,_,_] [_,_,_,_] rfl rfl
 refine k5 _ _ ?_
 have ⟨u25,hu25,h⟩ := bs h
 have ⟨u27,hu27,h⟩ := bs h
 have ⟨u29,hu29,h⟩ := bs h
 refine wr mx [v1 6 (fun v0 => own rS 9 (c1_ ++ [(name_ ++ ([32,108,101,97,115,116] : Str)),(name_ ++ ([32,109,111,115,116] : Str))]) v0),v1 6 (fun v0 => box (rVal.cs v0) q6)] H (fun _ => .u [0] rfl rfl (Qg9 Qnt z3)<|.q 2 rfl<|.o (Qgb z0 .k hu25)<|.q 4 rfl<|.o (Qgb z0 .k hu27)<|.o (QE (R := rS) (us := [(name_ ++ ([32,108,101,97,115,116] : Str)),(name_ ++ ([32,109,111,115,116] : Str))]) ud32 tok9 (.cons z2<|.cons z0<|.nil _) rfl (leb rfl))<|.e [] [1] [4] rfl rfl rfl rfl (Qaf (R := rS) ud32 tok9 (leb rfl) z5 z0 hu29)<|.e [4] [0] [5] rfl rfl rfl rfl (QjV (R := rS) (e := 9) (Ts := (rVal.cs vh6)) Qnt z10 z0 (leb rfl))<|.n) fun n1 a w H => ?_
 have H := H.to [6,7,9,10] [_,_,_,_] [_,_,_,_] rfl rfl
 obtain rfl := sj h
 exact Qn6 (.tuple #[(n0 10),(n1 6)]) [1,0,3,2] hpl H rfl .nil rfl rfl rfl

/- diorama/counts.Limits -/
noncomputable def Qa2 (x_ : Qg) : Option ((List Qb) × (List Str) × Int) := (QdD x_).bind fun t14 => (if (t14 != (0:Int)) = true then (some (([] : List Qb),([] : List Str),t14)) else (QI (fun (s15 : Int × List Str × List Qb) => ((if (decide (s15.1 < ((x_).Kinds.length : Int))) = true then (idx (x_).Kinds s15.1).bind fun t25 => (QbX (t25).Name s15.1 (-1:Int) (t25).Lo (t25).Hi s15.2.2 s15.2.1).bind fun t35 => (QI (fun (s135 : Int × List Qb × List Str) => ((if (decide (s135.1 < ((t25).Fields.length : Int))) = true then (idx (t25).Fields s135.1).bind fun t41 => ((if ((t41).Kind == (1:Int)) = true then (cat ((t25).Name.length + ([46] : Str).length)).bind fun _ => (cat (((t25).Name ++ ([46] : Str)).length + (t41).Name.length)).bind fun _ => (Qby x_ (t41).Of).bind fun t57 => (QbX (((t25).Name ++ ([46] : Str)) ++ (t41).Name) s15.1 t57 (t41).Lo (t41).Hi s135.2.1 s135.2.2).bind fun t62 => (some (t62.1,t62.2)) else (some (s135.2.1,s135.2.2)))).bind fun (p173 : List Qb × List Str) => (some (.inl ((IntKind.i64.wrap (s135.1 + (1:Int))),p173.1,p173.2))) else (some (.inr (s135.2.1,s135.2.2)))) : Option ((Int × List Qb × List Str) ⊕ ((List Qb × List Str))))) ((0:Int),t35.1,t35.2)).bind fun (p163 : (List Qb × List Str)) => (some (.inl ((IntKind.i64.wrap (s15.1 + (1:Int))),p163.2,p163.1))) else (some (.inr (s15.2.1,s15.2.2)))) : Option ((Int × List Str × List Qb) ⊕ ((List Str × List Qb))))) ((0:Int),([] : List Str),([] : List Qb))).bind fun (p123 : (List Str × List Qb)) => (some (p123.2,p123.1,(0:Int))))
theorem QgV {x_ : Qg} {r : (List Qb) × (List Str) × Int} (h : Qa2 x_ = some r) : FnOk Tryz.prog 12 [Qm.ty x_] [glo] (fun _ => []) (fun _ => ttup [tsl Qj r.1,tsl rS r.2.1,ti r.2.2]) := by
 unfold Qa2 at h
 refine fe Tryz.func12 Tryz.ntmps12 fun M0 M w0 a hpl H => ?_
 replace H : St M w0 67 [(0,Qm.ty x_)] [glo] a w0 := H
 refine sr mx [] H (fun _ => .o (QT (R := Qm) (u := x_) z0)<|.o (Qa (.nilsl (R := Qj)))<|.o (Qa (.nilsl (R := rS)))<|.o (Qa .k)<|.n) fun _ a w H => ?_
 have H := H.to [0] [_] [_] rfl rfl
 refine wp_seq_k (fun _ k2 => ?_)
 have ⟨t14,ht14,h⟩ := bs h
 refine sr mx [] H (fun _ => .o (Qr QaR z0)<|.u [0] rfl rfl ((Qh call36 (QnG ht14) (.cons (.of z0)<|.nil)).glo)<|.o (Qa z0)<|.n) fun _ a w H => ?_
 have H := H.to [2,3] [_,_] [_] rfl rfl
 refine sr mx [] H (fun _ => .q 0 rfl<|.o (Qam z0 .k)<|.n) fun _ a w H => ?_
 have H := H.to [1,2,3] [_,_,_] [_] rfl rfl
 refine wi H h (fun b180 h => ?_) (fun b180 h => ?_)
 ·refine sr mx [] H (fun _ => .q 1 rfl<|.o (Qa (.nilsl (R := Qj)))<|.o (Qa (.nilsl (R := rS)))<|.o (Qa z2)<|.n) fun _ a w H => ?_
  have H := H.to [1,2,3] [_,_,_] [_] rfl rfl
  refine wp_ret ?_
  obtain rfl := sj h
  exact rt undef [] hpl H (.tmp z0 (.tmp z1 (.tmp z2 .nil)))
 refine wp_skip (k2 _ _ ?_)
 refine sr mx [v1 0 (fun v0 => box (rVal.cs nilV) v0)] H (fun _ => .m [] [1] rfl rfl rfl (Qlq Qns)<|.n) fun n4 a w H => ?_
 replace H : St _ _ _ [_,_] [_,_,_] _ _ := (H.pick [0,3]).nil (Qj) 43
 refine sr mx [v1 0 (fun v0 => box (rVal.cs nilV) v0)] H (fun _ => .m [] [3] rfl rfl rfl (Qlq Qnt)<|.n) fun n5 a w H => ?_
 replace H : St _ _ _ [_,_,_] [_,_,_,_,_] _ _ := (H.pick [0,1,2]).nil (rS) 9
 refine sr mx [] H (fun _ => .o (QdK (.cons z1<|.cons z0<|.nil))<|.o (Qa z0)<|.n) fun _ a w H => ?_
 have H := H.to [1,2,3,4] [_,_,_,_] [_,_,_,_,_] rfl rfl
 refine wp_seq_k (fun K13 k13 => ?_)
 refine sr mx [] H (fun _ => .o (Qe QaJ z3)<|.o (Qf (u := (x_).Kinds) Qdp z0 rfl)<|.o (QN ud23 z0)<|.o (Qw .k)<|.n) fun _ a w H => ?_
 have H := H.to [1,2,3,4,5,6,7] [_,_,_,_,_,_,_] [_,_,_,_,_] rfl rfl
 have ⟨e16,he16,h⟩ := bs h
 have hJp123 : ∀ (p123 : List Str × List Qb) (v124 : Value) (v125 : Value) a w,p123 = e16 → St M w0 67 [(7,tv (n5 0)),(6,tv (n4 0))] [own rS 9 p123.1 v124,own Qj 43 p123.2 v125,glo,box (rVal.cs v125) (n4 0),box (rVal.cs v124) (n5 0)] a w → K13 a w := by
  intro p123 v124 v125 a w he H
  subst he
  refine k13 _ _ ?_
  refine sr mx [] H (fun _ => .u [3] rfl rfl (Qg9 Qns z1)<|.u [4] rfl rfl (Qg9 Qnt z1)<|.o (Qa z1)<|.o (Qa z1)<|.o (Qa .k)<|.n) fun _ a w H => ?_
  replace H : St _ _ _ [_,_,_,_,_] [_,_,_] _ _ := (H.pick [0,1,2,3,4]).selA [0,1,2] rfl
  refine wp_ret ?_
  replace H : St _ _ _ [_,_,_,_] [_,_] _ _ := ((H.selA [1,0,2] rfl).shareO 2 rfl).pick [0,2,4,5]
  replace H : St _ _ _ [_,_,_] [_] _ _ := (H.shareO 2 rfl).pick [0,1,4]
  obtain rfl := sj h
  exact rt undef [] hpl H (.tmp z1 (.tmp z0 (.tmp z2 .nil)))
 refine wp_block ?_
 refine QZ _ (fun (s15 : Int × List Str × List Qb) a w => ∃ v69 : Value,∃ v70 : Value,St M w0 67 [(20,tsl Qk (x_).Kinds),(21,ti ((x_).Kinds.length : Int)),(22,ti s15.1),(8,QdN 37 [tv (n4 0),tv (n5 0)]),(7,tv (n5 0)),(6,tv (n4 0)),(1,tptr (Qm.cs x_))] [own rS 9 s15.2.1 v69,own Qj 43 s15.2.2 v70,glo,box (rVal.cs v70) (n4 0),box (rVal.cs v69) (n5 0)] a w) _ _ he16 ⟨nilV,nilV,H.pick [0,1,2,3,4,5,6]⟩ ?_
 clear h
 intro s15 o a w K127 hI h ho k127
 obtain ⟨v69,v70,H⟩ := hI
 refine sr mx [] H (fun _ => .o (QU z2 z1)<|.n) fun _ a w H => ?_
 have H := H.to [0,1,2,3,4,5,6,7] [_,_,_,_,_,_,_,_] [_,_,_,_,_] rfl rfl
 refine wp_seq_k (fun _ k129 => ?_)
 refine wi H h (fun b179 h => ?_) (fun b179 h => ?_)
 ·refine wp_skip (k129 _ _ ?_)
  refine wp_seq_k (fun K130 k130 => ?_)
  refine wp_block ?_
  have ⟨t25,ht25,h⟩ := bs h
  refine sr mx [v1 3 (fun v0 => box (Qk.cs zz1) v0),v1 3 (fun v0 => box (Qk.cs t25) v0)] H (fun _ => .q 3 rfl<|.o (QG ud23 Q7 z2 z4 ht25)<|.o (Qr Q7 z0)<|.m [] [5] rfl rfl rfl (Q1 (R := Qk) (a := zz1) Q7 QiY)<|.o (Qa z3)<|.e [] [5] [6] rfl rfl rfl rfl (QR (R := Qk) (a := t25) Q7 z1 z2 (leb rfl))<|.n) fun _ a w H => ?_
  replace H : St _ _ _ [_,_,_,_,_,_,_,_,_] [_,_,_,_,_] _ _ := ((((H.pick [3,4,6,7,8,9,10,11,12]).selA [5,0,1,2,3,4] rfl).shareB 0 rfl).add 0 rfl (fun _ _ _ h => h.2)).pick [0,3,4,5,6,7,8,9,10]
  have ⟨t35,ht35,h⟩ := bs h
  refine sr mx [v1 8 (fun v0 => box (rVal.cs (gh v0 0)) (n4 0)),v1 8 (fun v0 => own Qj 43 t35.1 (gh v0 0)),v1 8 (fun v0 => box (rVal.cs (gh v0 1)) (n5 0)),v1 8 (fun v0 => own rS 9 t35.2 (gh v0 1))] H (fun _ => .q 5 rfl<|.o (Qe QcY z1)<|.o (Qf (u := (t25).Name) tok9 z0 rfl)<|.q 4 rfl<|.o (Qe Qjd z4)<|.o (Qf (u := (t25).Lo) tok3 z0 rfl)<|.o (Qe Qka z6)<|.o (Qf (u := (t25).Hi) tok3 z0 rfl)<|.e [] [3,1,4,0] [5,6,7,8] rfl rfl rfl rfl (Qh3 Qsq (QiA ht35) z7 (.cons (.of z5)<|.cons (.of z4)<|.cons (.of .k)<|.cons (.of z2)<|.cons (.of z0)<|.nil))<|.n) fun n10 a w H => ?_
  have H := H.to [9,10,11,12,13,14,15,16,17] [_,_,_,_,_,_,_,_,_] [_,_,_,_,_] rfl rfl
  refine sr mx [] H (fun _ => .o (Qe Qap z0)<|.o (Qf (u := (t25).Fields) Qc8 z0 rfl)<|.o (QN ud53 z0)<|.o (Qw .k)<|.n) fun _ a w H => ?_
  have H := H.to [1,2,3,4,5,6,7,8,9,10,11,12] [_,_,_,_,_,_,_,_,_,_,_,_] [_,_,_,_,_] rfl rfl
  have ⟨e136,he136,h⟩ := bs h
  have hJp163 : ∀ (p163 : List Qb × List Str) (v164 : Value) (v165 : Value) a w,p163 = e136 → St M w0 67 [(20,tsl Qk (x_).Kinds),(21,ti ((x_).Kinds.length : Int)),(22,ti s15.1),(8,QdN 37 [tv (n4 0),tv (n5 0)]),(7,tv (n5 0)),(6,tv (n4 0)),(1,tptr (Qm.cs x_))] [glo,box (rVal.cs v164) (n4 0),own Qj 43 p163.1 v164,box (rVal.cs v165) (n5 0),own rS 9 p163.2 v165] a w → K130 a w := by
   intro p163 v164 v165 a w he H
   subst he
   refine k130 _ _ ?_
   refine wr mx [] H (fun _ => .o (QV z2 .k)<|.q 0 rfl<|.n) fun _ a w H => ?_
   have H := H.to [1,2,3,4,5,6,7] [_,_,_,_,_,_,_] [_,_,_,_,_] rfl rfl
   exact k127 _ _ _ (sj h).symm ⟨v165,v164,(H.pick [1,2,0,3,4,5,6]).selA [4,2,0,1,3] rfl⟩
  refine wp_block ?_
  refine QZ _ (fun (s135 : Int × List Qb × List Str) a w => ∃ v149 : Value,∃ v150 : Value,St M w0 67 [(37,tsl Qd (t25).Fields),(38,ti ((t25).Fields.length : Int)),(39,ti s135.1),(10,tptr (Qk.cs t25)),(9,ti s15.1),(20,tsl Qk (x_).Kinds),(21,ti ((x_).Kinds.length : Int)),(22,ti s15.1),(8,QdN 37 [tv (n4 0),tv (n5 0)]),(7,tv (n5 0)),(6,tv (n4 0)),(1,tptr (Qm.cs x_))] [glo,box (rVal.cs v149) (n4 0),own Qj 43 s135.2.1 v149,box (rVal.cs v150) (n5 0),own rS 9 s135.2.2 v150] a w) _ _ he136 ⟨(gh (n10 8) 0),(gh (n10 8) 1),H.pick [0,1,2,3,4,5,6,7,8,9,10,11]⟩ ?_
  clear h
  intro s135 o a w K166 hI h ho k166
  obtain ⟨v149,v150,H⟩ := hI
  refine sr mx [] H (fun _ => .o (QU z2 z1)<|.n) fun _ a w H => ?_
  have H := H.to [0,1,2,3,4,5,6,7,8,9,10,11,12] [_,_,_,_,_,_,_,_,_,_,_,_,_] [_,_,_,_,_] rfl rfl
  refine wp_seq_k (fun _ k168 => ?_)
  refine wi H h (fun b178 h => ?_) (fun b178 h => ?_)
  ·refine wp_skip (k168 _ _ ?_)
   refine wp_seq_k (fun K169 k169 => ?_)
   refine wp_block ?_
   have ⟨t41,ht41,h⟩ := bs h
   refine sr mx [v1 2 (fun v0 => box (Qd.cs zz0) v0),v1 2 (fun v0 => box (Qd.cs t41) v0)] H (fun _ => .o (QG ud53 QS z1 z3 ht41)<|.o (Qr QS z0)<|.m [] [5] rfl rfl rfl (Q1 (R := Qd) (a := zz0) QS Qeh)<|.e [] [5] [6] rfl rfl rfl rfl (QR (R := Qd) (a := t41) QS z0 z1 (leb rfl))<|.n) fun _ a w H => ?_
   replace H : St _ _ _ [_,_,_,_,_,_,_,_,_,_,_,_,_] [_,_,_,_,_] _ _ := ((((H.pick [2,4,5,6,7,8,9,10,11,12,13,14,15]).selA [5,0,1,2,3,4] rfl).shareB 0 rfl).add 0 rfl (fun _ _ _ h => h.2)).pick [0,3,4,5,6,7,8,9,10,11,12,13,14]
   refine sr mx [] H (fun _ => .o (Qe QaX z0)<|.o (Qf (u := (t41).Kind) tok3 z0 rfl)<|.o (Q4 z0 .k)<|.n) fun _ a w H => ?_
   have H := H.to [2,3,4,5,6,7,8,9,10,11,12,13,14,15] [_,_,_,_,_,_,_,_,_,_,_,_,_,_] [_,_,_,_,_] rfl rfl
   have ⟨p173,hp173,h⟩ := bs h
   have hJp173 : ∀ (v175 : Value) (v176 : Value) a w,St M w0 67 [(37,tsl Qd (t25).Fields),(38,ti ((t25).Fields.length : Int)),(39,ti s135.1),(10,tptr (Qk.cs t25)),(9,ti s15.1),(20,tsl Qk (x_).Kinds),(21,ti ((x_).Kinds.length : Int)),(22,ti s15.1),(8,QdN 37 [tv (n4 0),tv (n5 0)]),(7,tv (n5 0)),(6,tv (n4 0)),(1,tptr (Qm.cs x_))] [glo,box (rVal.cs v175) (n4 0),own Qj 43 p173.1 v175,box (rVal.cs v176) (n5 0),own rS 9 p173.2 v176] a w → K169 a w := by
    intro v175 v176 a w H
    refine k169 _ _ ?_
    refine wr mx [] H (fun _ => .o (QV z2 .k)<|.q 0 rfl<|.n) fun _ a w H => ?_
    have H := H.to [1,2,3,4,5,6,7,8,9,10,11,12] [_,_,_,_,_,_,_,_,_,_,_,_] [_,_,_,_,_] rfl rfl
    exact k166 _ _ _ (sj h).symm ⟨v175,v176,H.pick [1,2,0,3,4,5,6,7,8,9,10,11]⟩
   replace h := hp173
   clear hp173
   refine wi H h (fun b177 h => ?_) (fun b177 h => ?_)
   ·have ⟨u49,hu49,h⟩ := bs h
    have ⟨u52,hu52,h⟩ := bs h
    have ⟨t57,ht57,h⟩ := bs h
    have ⟨t62,ht62,h⟩ := bs h
    refine wr mx [v1 16 (fun v0 => box (rVal.cs (gh v0 0)) (n4 0)),v1 16 (fun v0 => own Qj 43 t62.1 (gh v0 0)),v1 16 (fun v0 => box (rVal.cs (gh v0 1)) (n5 0)),v1 16 (fun v0 => own rS 9 t62.2 (gh v0 1))] H (fun _ => .q 10 rfl<|.o (Qe QcY z6)<|.o (Qf (u := (t25).Name) tok9 z0 rfl)<|.o (Qgb z0 .k hu49)<|.o (Qe Qce z5)<|.o (Qf (u := (t41).Name) tok9 z0 rfl)<|.o (Qgb z2 z0 hu52)<|.q 13 rfl<|.o (Qr QaR z21)<|.o (Qe QaA z10)<|.o (Qf (u := (t41).Of) tok9 z0 rfl)<|.o (Qh Qkc (Qd0 ht57) (.cons (.of z2)<|.cons (.of z0)<|.nil))<|.o (Qe Qbd z13)<|.o (Qf (u := (t41).Lo) tok3 z0 rfl)<|.o (Qe Qb0 z15)<|.o (Qf (u := (t41).Hi) tok3 z0 rfl)<|.e [] [1,2,3,4] [5,6,7,8] rfl rfl rfl rfl (Qh3 Qsq (QiA ht62) z15 (.cons (.of z9)<|.cons (.of z8)<|.cons (.of z4)<|.cons (.of z2)<|.cons (.of z0)<|.nil))<|.n) fun n15 a w H => ?_
    have H := H.to [19,20,21,22,23,24,25,26,27,28,29,30] [_,_,_,_,_,_,_,_,_,_,_,_] [_,_,_,_,_] rfl rfl
    obtain rfl := sj h
    exact hJp173 (gh (n15 16) 0) (gh (n15 16) 1) _ _ (H.pick [0,1,2,3,4,5,6,7,8,9,10,11])
   refine wp_skip ?_
   obtain rfl := sj h
   exact hJp173 v149 v150 _ _ (H.pick [2,3,4,5,6,7,8,9,10,11,12,13])
  refine wp_exit ?_
  exact hJp163 _ v149 v150 _ _ (ho _ (sj h).symm) (H.pick [6,7,8,9,10,11,12])
 refine wp_exit ?_
 exact hJp123 _ v69 v70 _ _ (ho _ (sj h).symm) (H.pick [5,6])

/- slices.IndexFunc[[]int,int] -/
noncomputable def QbK (s_ : (List Int)) (f_ : (Int → Option Bool)) : Option (Int) := (QI (fun (s4 : Int) => ((if (decide (s4 < (s_.length : Int))) = true then (idx s_ s4).bind fun t14 => (f_ t14).bind fun t16 => (if t16 = true then (some (.inr (.inr s4))) else (some (.inl (IntKind.i64.wrap (s4 + (1:Int)))))) else (some (.inr (.inl ())))) : Option ((Int) ⊕ ((Unit) ⊕ (Int))))) (0:Int)).bind fun (e5 : (Unit) ⊕ (Int)) => (match e5 with | .inl _ => (some (-1:Int)) | .inr p23 => (some p23))
theorem QjH {s_ : (List Int)} {f_ : (Int → Option Bool)} {r : Int} (h : QbK s_ f_ = some r) : FnOk Tryz.prog 81 [tsl rI s_,rF96.ty f_] [] (fun _ => []) (fun _ => ti r) := by
 unfold QbK at h
 refine fe Tryz.func81 Tryz.ntmps81 fun M0 M w0 a hpl H => ?_
 replace H : St M w0 19 [(0,tsl rI s_),(1,rF96.ty f_)] [] a w0 := H
 refine sr mx [] H (fun _ => .o (Qa .k)<|.n) fun _ a w H => ?_
 have H := H.to [1,2] [_,_] [] rfl rfl
 refine wp_seq_k (fun K2 k2 => ?_)
 refine sr mx [] H (fun _ => .q 0 rfl<|.o (QN ud22 z0)<|.o (Qw .k)<|.n) fun _ a w H => ?_
 have H := H.to [1,2,3,4] [_,_,_,_] [] rfl rfl
 have ⟨e5,he5,h⟩ := bs h
 have hJp22 : ∀ (p22 : Unit) a w,(.inl p22) = e5 → St M w0 19 [] [] a w → K2 a w := by
  intro p22 a w he H
  subst he
  simp only at h
  refine k2 _ _ ?_
  refine sr mx [] H (fun _ => .o (Qa .k)<|.n) fun _ a w H => ?_
  have H := H.to [0] [_] [] rfl rfl
  refine wp_ret ?_
  obtain rfl := sj h
  exact rt undef [] hpl H (.tmp z0 .nil)
 have hJp23 : ∀ (p23 : Int) a w,(.inr p23) = e5 → St M w0 19 [(4,ti p23)] [] a w → Ret Tryz.prog Tryz.f81 M0 [] w0 (fun _ => []) (fun _ => ti r) .ret a w := by
  intro p23 a w he H
  subst he
  simp only at h
  obtain rfl := sj h
  exact rt undef [] hpl H (.tmp z0 .nil)
 refine wp_block ?_
 refine QZ _ (fun (s4 : Int) a w => St M w0 19 [(7,ti (s_.length : Int)),(8,ti s4),(0,tsl rI s_),(1,rF96.ty f_)] [] a w) _ _ he5 (H.pick [0,1,2,3]) ?_
 clear h
 intro s4 o a w K25 hI h ho k25
 have H := hI
 clear hI
 refine sr mx [] H (fun _ => .o (QU z1 z0)<|.n) fun _ a w H => ?_
 have H := H.to [0,1,2,3,4] [_,_,_,_,_] [] rfl rfl
 refine wp_seq_k (fun _ k27 => ?_)
 refine wi H h (fun b33 h => ?_) (fun b33 h => ?_)
 ·refine wp_skip (k27 _ _ ?_)
  refine wp_seq_k (fun _ k28 => ?_)
  refine wp_block ?_
  refine sr mx [] H (fun _ => .q 2 rfl<|.o (Qa z0)<|.n) fun _ a w H => ?_
  have H := H.to [1,3,4,5,6] [_,_,_,_,_] [] rfl rfl
  have ⟨t14,ht14,h⟩ := bs h
  have ⟨t16,ht16,h⟩ := bs h
  refine sr mx [] H (fun _ => .q 4 rfl<|.q 4 rfl<|.q 2 rfl<|.o (QG ud22 tok3 z1 z0 ht14)<|.o (Qr tok3 z0)<|.o (Qb2 (u := t14) z4 (.cons (.of z0)<|.nil) ht16)<|.n) fun _ a w H => ?_
  have H := H.to [5,6,7,8,9,10] [_,_,_,_,_,_] [] rfl rfl
  refine wi H h (fun b32 h => ?_) (fun b32 h => ?_)
  ·refine sr mx [] H (fun _ => .q 1 rfl<|.o (Qa z0)<|.n) fun _ a w H => ?_
   have H := H.to [1] [_] [] rfl rfl
   refine wp_ret ?_
   exact hJp23 _ _ _ (ho _ (sj h).symm) (H.pick [0])
  refine wp_skip (k28 _ _ ?_)
  refine wr mx [] H (fun _ => .o (QV z3 .k)<|.q 0 rfl<|.n) fun _ a w H => ?_
  have H := H.to [1,4,5,6] [_,_,_,_] [] rfl rfl
  exact k25 _ _ _ (sj h).symm (H.pick [1,0,2,3])
 refine wp_exit ?_
 exact hJp22 _ _ _ (ho _ (sj h).symm) (H.pick [])

/- slices.ContainsFunc[[]int,int] -/
noncomputable def QaD (s_ : (List Int)) (f_ : (Int → Option Bool)) : Option (Bool) := (QbK s_ f_).bind fun t7 => (some (decide (t7 ≥ (0:Int))))
theorem Qfx {s_ : (List Int)} {f_ : (Int → Option Bool)} {r : Bool} (h : QaD s_ f_ = some r) : FnOk Tryz.prog 43 [tsl rI s_,rF96.ty f_] [] (fun _ => []) (fun _ => tb r) := by
 unfold QaD at h
 refine fe Tryz.func43 Tryz.ntmps43 fun M0 M w0 a hpl H => ?_
 replace H : St M w0 9 [(0,tsl rI s_),(1,rF96.ty f_)] [] a w0 := H
 refine sr mx [] H (fun _ => .o (Qa .k)<|.n) fun _ a w H => ?_
 have H := H.to [1,2] [_,_] [] rfl rfl
 have ⟨t7,ht7,h⟩ := bs h
 refine sr mx [] H (fun _ => .q 0 rfl<|.q 2 rfl<|.o (Qh call81 (QjH ht7) (.cons (.of z1)<|.cons (.of z0)<|.nil))<|.o (QaY z0 .k)<|.o (Qa z0)<|.n) fun _ a w H => ?_
 have H := H.to [4] [_] [] rfl rfl
 refine wp_ret ?_
 obtain rfl := sj h
 exact rt undef [] hpl H (.tmp z0 .nil)

/- diorama/counts.isCount -/
noncomputable def Qds (n_ : Int) : Option (Bool) := (some ((decide (n_ ≥ (0:Int))) && (decide (n_ ≤ (65536:Int)))))
theorem QiV {n_ : Int} {r : Bool} (h : Qds n_ = some r) : FnOk Tryz.prog 45 [ti n_] [] (fun _ => []) (fun _ => tb r) := by
 unfold Qds at h
 refine fe Tryz.func45 Tryz.ntmps45 fun M0 M w0 a hpl H => ?_
 replace H : St M w0 9 [(0,ti n_)] [] a w0 := H
 refine sr mx [] H (fun _ => .o (Qa .k)<|.n) fun _ a w H => ?_
 have H := H.to [1] [_] [] rfl rfl
 refine sr mx [] H (fun _ => .q 0 rfl<|.o (QaY z0 .k)<|.q 0 rfl<|.g rfl rfl bq0 (fun _ => Qw z3)<|.g rfl rfl bq1 (fun hc => Qd5 (.cond z0 hc) .k)<|.o (QY z2 (fun hp => (.cond z0 (beqT hp))))<|.o (Qa z0)<|.n) fun _ a w H => ?_
 have H := H.to [6] [_] [] rfl rfl
 refine wp_ret ?_
 obtain rfl := sj h
 exact rt undef [] hpl H (.tmp z0 .nil)

/- diorama/counts.Plan$1 -/
noncomputable def Qc4 (n_ : Int) : Option (Bool) := (Qds n_).bind fun t4 => (some (!t4))
theorem QmV {n_ : Int} {r : Bool} (h : Qc4 n_ = some r) : FnOk Tryz.prog 49 [ti n_] [] (fun _ => []) (fun _ => tb r) := by
 unfold Qc4 at h
 refine fe Tryz.func49 Tryz.ntmps49 fun M0 M w0 a hpl H => ?_
 replace H : St M w0 6 [(0,ti n_)] [] a w0 := H
 refine sr mx [] H (fun _ => .o (Qa .k)<|.n) fun _ a w H => ?_
 have H := H.to [1] [_] [] rfl rfl
 have ⟨t4,ht4,h⟩ := bs h
 refine sr mx [] H (fun _ => .q 0 rfl<|.o (Qh Qsu (QiV ht4) (.cons (.of z0)<|.nil))<|.o (Qar z0)<|.o (Qa z0)<|.n) fun _ a w H => ?_
 have H := H.to [3] [_] [] rfl rfl
 refine wp_ret ?_
 obtain rfl := sj h
 exact rt undef [] hpl H (.tmp z0 .nil)

/- cmp.isNaN[int] -/
noncomputable def Qc5 (x_ : Int) : Option (Bool) := (some (x_ != x_))
theorem Qjr {x_ : Int} {r : Bool} (h : Qc5 x_ = some r) : FnOk Tryz.prog 149 [ti x_] [] (fun _ => []) (fun _ => tb r) := by
 unfold Qc5 at h
 refine fe Tryz.func149 Tryz.ntmps149 fun M0 M w0 a hpl H => ?_
 replace H : St M w0 6 [(0,ti x_)] [] a w0 := H
 refine sr mx [] H (fun _ => .o (Qa .k)<|.n) fun _ a w H => ?_
 have H := H.to [1] [_] [] rfl rfl
 refine sr mx [] H (fun _ => .q 0 rfl<|.q 1 rfl<|.o (Qam z1 z0)<|.o (Qa z0)<|.n) fun _ a w H => ?_
 have H := H.to [3] [_] [] rfl rfl
 refine wp_ret ?_
 obtain rfl := sj h
 exact rt undef [] hpl H (.tmp z0 .nil)

/- cmp.Compare[int] -/
noncomputable def Qc6 (x_ : Int) (y_ : Int) : Option (Int) := (Qc5 x_).bind fun t8 => (Qc5 y_).bind fun t10 => (if t8 = true then (if t10 = true then (some (0:Int)) else (some (-1:Int))) else (if t10 = true then (some (1:Int)) else (if (decide (x_ < y_)) = true then (some (-1:Int)) else (if (decide (x_ > y_)) = true then (some (1:Int)) else (some (0:Int))))))
theorem QlG {x_ : Int} {y_ : Int} {r : Int} (h : Qc6 x_ y_ = some r) : FnOk Tryz.prog 119 [ti x_,ti y_] [] (fun _ => []) (fun _ => ti r) := by
 unfold Qc6 at h
 refine fe Tryz.func119 Tryz.ntmps119 fun M0 M w0 a hpl H => ?_
 replace H : St M w0 20 [(0,ti x_),(1,ti y_)] [] a w0 := H
 refine sr mx [] H (fun _ => .o (Qa .k)<|.n) fun _ a w H => ?_
 have H := H.to [1,2] [_,_] [] rfl rfl
 have ⟨t8,ht8,h⟩ := bs h
 refine sr mx [] H (fun _ => .q 0 rfl<|.o (Qh Qq5 (Qjr ht8) (.cons (.of z0)<|.nil))<|.o (Qa z0)<|.n) fun _ a w H => ?_
 have H := H.to [2,3,4] [_,_,_] [] rfl rfl
 have ⟨t10,ht10,h⟩ := bs h
 refine sr mx [] H (fun _ => .q 2 rfl<|.o (Qh Qq5 (Qjr ht10) (.cons (.of z0)<|.nil))<|.o (Qa z0)<|.n) fun _ a w H => ?_
 have H := H.to [2,3,4,5] [_,_,_,_] [] rfl rfl
 refine wp_seq_k (fun _ k4 => ?_)
 refine sr mx [] H (fun _ => .q 1 rfl<|.n) fun _ a w H => ?_
 have H := H.to [0,1,3,4] [_,_,_,_] [] rfl rfl
 refine wi H h (fun b24 h => ?_) (fun b24 h => ?_)
 ·refine wp_seq_k (fun _ k6 => ?_)
  refine sr mx [] H (fun _ => .q 1 rfl<|.n) fun _ a w H => ?_
  have H := H.to [0] [_] [] rfl rfl
  refine wi H h (fun b10 h => ?_) (fun b10 h => ?_)
  ·refine sr mx [] H (fun _ => .o (Qa .k)<|.n) fun _ a w H => ?_
   have H := H.to [0] [_] [] rfl rfl
   refine wp_ret ?_
   obtain rfl := sj h
   exact rt undef [] hpl H (.tmp z0 .nil)
  refine wp_skip (k6 _ _ ?_)
  refine sr mx [] H (fun _ => .o (Qa .k)<|.n) fun _ a w H => ?_
  have H := H.to [0] [_] [] rfl rfl
  refine wp_ret ?_
  obtain rfl := sj h
  exact rt undef [] hpl H (.tmp z0 .nil)
 refine wp_skip (k4 _ _ ?_)
 refine wp_seq_k (fun _ k11 => ?_)
 refine sr mx [] H (fun _ => .q 1 rfl<|.n) fun _ a w H => ?_
 have H := H.to [0,3,4] [_,_,_] [] rfl rfl
 refine wi H h (fun b23 h => ?_) (fun b23 h => ?_)
 ·refine sr mx [] H (fun _ => .o (Qa .k)<|.n) fun _ a w H => ?_
  have H := H.to [0] [_] [] rfl rfl
  refine wp_ret ?_
  obtain rfl := sj h
  exact rt undef [] hpl H (.tmp z0 .nil)
 refine wp_skip (k11 _ _ ?_)
 refine wp_seq_k (fun _ k14 => ?_)
 refine sr mx [] H (fun _ => .q 1 rfl<|.q 3 rfl<|.o (QU z1 z0)<|.n) fun _ a w H => ?_
 have H := H.to [2,4,5] [_,_,_] [] rfl rfl
 refine wi H h (fun b22 h => ?_) (fun b22 h => ?_)
 ·refine sr mx [] H (fun _ => .o (Qa .k)<|.n) fun _ a w H => ?_
  have H := H.to [0] [_] [] rfl rfl
  refine wp_ret ?_
  obtain rfl := sj h
  exact rt undef [] hpl H (.tmp z0 .nil)
 refine wp_skip (k14 _ _ ?_)
 refine wp_seq_k (fun _ k17 => ?_)
 refine sr mx [] H (fun _ => .q 1 rfl<|.q 3 rfl<|.o (Qcf z1 z0)<|.n) fun _ a w H => ?_
 have H := H.to [2] [_] [] rfl rfl
 refine wi H h (fun b21 h => ?_) (fun b21 h => ?_)
 ·refine sr mx [] H (fun _ => .o (Qa .k)<|.n) fun _ a w H => ?_
  have H := H.to [0] [_] [] rfl rfl
  refine wp_ret ?_
  obtain rfl := sj h
  exact rt undef [] hpl H (.tmp z0 .nil)
 refine wp_skip (k17 _ _ ?_)
 refine sr mx [] H (fun _ => .o (Qa .k)<|.n) fun _ a w H => ?_
 have H := H.to [0] [_] [] rfl rfl
 refine wp_ret ?_
 obtain rfl := sj h
 exact rt undef [] hpl H (.tmp z0 .nil)

/- slices.Compare[[]int,int] -/
noncomputable def Qbg (s1_ : (List Int)) (s2_ : (List Int)) : Option (Int) := (QI (fun (s4 : Int) => ((if (decide (s4 < (s1_.length : Int))) = true then (idx s1_ s4).bind fun t14 => (if (decide (s4 ≥ (s2_.length : Int))) = true then (some (.inr (.inr (1:Int)))) else (idx s2_ s4).bind fun t22 => (Qc6 t14 t22).bind fun t26 => (if (t26 != (0:Int)) = true then (some (.inr (.inr t26))) else (some (.inl (IntKind.i64.wrap (s4 + (1:Int))))))) else (some (.inr (.inl ())))) : Option ((Int) ⊕ ((Unit) ⊕ (Int))))) (0:Int)).bind fun (e5 : (Unit) ⊕ (Int)) => (match e5 with | .inl _ => (if (decide ((s1_.length : Int) < (s2_.length : Int))) = true then (some (-1:Int)) else (some (0:Int))) | .inr p35 => (some p35))
theorem Qkg {s1_ : (List Int)} {s2_ : (List Int)} {r : Int} (h : Qbg s1_ s2_ = some r) : FnOk Tryz.prog 83 [tsl rI s1_,tsl rI s2_] [] (fun _ => []) (fun _ => ti r) := by
 unfold Qbg at h
 refine fe Tryz.func83 Tryz.ntmps83 fun M0 M w0 a hpl H => ?_
 replace H : St M w0 36 [(0,tsl rI s1_),(1,tsl rI s2_)] [] a w0 := H
 refine sr mx [] H (fun _ => .o (Qa .k)<|.n) fun _ a w H => ?_
 have H := H.to [1,2] [_,_] [] rfl rfl
 refine wp_seq_k (fun K2 k2 => ?_)
 refine sr mx [] H (fun _ => .q 0 rfl<|.o (QN ud22 z0)<|.o (Qw .k)<|.n) fun _ a w H => ?_
 have H := H.to [0,1,2,3,4] [_,_,_,_,_] [] rfl rfl
 have ⟨e5,he5,h⟩ := bs h
 have hJp34 : ∀ (p34 : Unit) a w,(.inl p34) = e5 → St M w0 36 [(0,tsl rI s1_),(1,tsl rI s2_)] [] a w → K2 a w := by
  intro p34 a w he H
  subst he
  simp only at h
  refine k2 _ _ ?_
  refine wp_seq_k (fun _ k36 => ?_)
  refine sr mx [] H (fun _ => .q 0 rfl<|.o (QN ud22 z0)<|.q 3 rfl<|.o (QN ud22 z0)<|.o (QU z2 z0)<|.n) fun _ a w H => ?_
  have H := H.to [4] [_] [] rfl rfl
  refine wi H h (fun b40 h => ?_) (fun b40 h => ?_)
  ·refine sr mx [] H (fun _ => .o (Qa .k)<|.n) fun _ a w H => ?_
   have H := H.to [0] [_] [] rfl rfl
   refine wp_ret ?_
   obtain rfl := sj h
   exact rt undef [] hpl H (.tmp z0 .nil)
  refine wp_skip (k36 _ _ ?_)
  refine sr mx [] H (fun _ => .o (Qa .k)<|.n) fun _ a w H => ?_
  have H := H.to [0] [_] [] rfl rfl
  refine wp_ret ?_
  obtain rfl := sj h
  exact rt undef [] hpl H (.tmp z0 .nil)
 have hJp35 : ∀ (p35 : Int) a w,(.inr p35) = e5 → St M w0 36 [(4,ti p35)] [] a w → Ret Tryz.prog Tryz.f83 M0 [] w0 (fun _ => []) (fun _ => ti r) .ret a w := by
  intro p35 a w he H
  subst he
  simp only at h
  obtain rfl := sj h
  exact rt undef [] hpl H (.tmp z0 .nil)
 refine wp_block ?_
 refine QZ _ (fun (s4 : Int) a w => St M w0 36 [(9,tsl rI s1_),(10,ti (s1_.length : Int)),(11,ti s4),(0,tsl rI s1_),(1,tsl rI s2_)] [] a w) _ _ he5 (H.pick [0,1,2,3,4]) ?_
 clear h
 intro s4 o a w K41 hI h ho k41
 have H := hI
 clear hI
 refine sr mx [] H (fun _ => .o (QU z2 z1)<|.n) fun _ a w H => ?_
 have H := H.to [0,1,2,3,4,5] [_,_,_,_,_,_] [] rfl rfl
 refine wp_seq_k (fun _ k43 => ?_)
 refine wi H h (fun b55 h => ?_) (fun b55 h => ?_)
 ·refine wp_skip (k43 _ _ ?_)
  refine wp_seq_k (fun _ k44 => ?_)
  refine wp_block ?_
  have ⟨t14,ht14,h⟩ := bs h
  refine sr mx [] H (fun _ => .q 3 rfl<|.o (QG ud22 tok3 z2 z4 ht14)<|.o (Qr tok3 z0)<|.o (Qa z2)<|.o (Qa z1)<|.n) fun _ a w H => ?_
  have H := H.to [3,4,6,7,8,9,10] [_,_,_,_,_,_,_] [] rfl rfl
  refine wp_seq_k (fun _ k46 => ?_)
  refine sr mx [] H (fun _ => .q 0 rfl<|.q 7 rfl<|.o (QN ud22 z0)<|.o (QaY z2 z0)<|.n) fun _ a w H => ?_
  have H := H.to [3,4,5,6,7,8,9,10] [_,_,_,_,_,_,_,_] [] rfl rfl
  refine wi H h (fun b54 h => ?_) (fun b54 h => ?_)
  ·refine sr mx [] H (fun _ => .o (Qa .k)<|.n) fun _ a w H => ?_
   have H := H.to [0] [_] [] rfl rfl
   refine wp_ret ?_
   exact hJp35 _ _ _ (ho _ (sj h).symm) (H.pick [0])
  refine wp_skip (k46 _ _ ?_)
  have ⟨t22,ht22,h⟩ := bs h
  refine sr mx [] H (fun _ => .q 7 rfl<|.q 2 rfl<|.o (QG ud22 tok3 z1 z0 ht22)<|.o (Qr tok3 z0)<|.o (Qa z0)<|.n) fun _ a w H => ?_
  have H := H.to [4,7,8,9,10,11,12] [_,_,_,_,_,_,_] [] rfl rfl
  have ⟨t26,ht26,h⟩ := bs h
  refine sr mx [] H (fun _ => .q 1 rfl<|.q 1 rfl<|.o (Qh Qu8 (QlG ht26) (.cons (.of z1)<|.cons (.of z0)<|.nil))<|.o (Qa z0)<|.n) fun _ a w H => ?_
  have H := H.to [3,6,7,8,9,10] [_,_,_,_,_,_] [] rfl rfl
  refine sr mx [] H (fun _ => .q 0 rfl<|.o (Qam z0 .k)<|.n) fun _ a w H => ?_
  have H := H.to [1,2,3,4,5,6,7] [_,_,_,_,_,_,_] [] rfl rfl
  refine wi H h (fun b53 h => ?_) (fun b53 h => ?_)
  ·refine sr mx [] H (fun _ => .q 1 rfl<|.o (Qa z0)<|.n) fun _ a w H => ?_
   have H := H.to [1] [_] [] rfl rfl
   refine wp_ret ?_
   exact hJp35 _ _ _ (ho _ (sj h).symm) (H.pick [0])
  refine wp_skip (k44 _ _ ?_)
  refine wr mx [] H (fun _ => .o (QV z4 .k)<|.q 0 rfl<|.n) fun _ a w H => ?_
  have H := H.to [1,4,5,6,7] [_,_,_,_,_] [] rfl rfl
  exact k41 _ _ _ (sj h).symm (H.pick [1,2,0,3,4])
 refine wp_exit ?_
 exact hJp34 _ _ _ (ho _ (sj h).symm) (H.pick [4,5])

/- (diorama/counts.Limit).bound -/
noncomputable def QaF (l_ : Qb) (counts_ : (List Int)) : Option (Int) := (if (decide ((l_).B < (0:Int))) = true then (some (l_).Mul) else (idx counts_ (l_).B).bind fun t15 => (some (IntKind.i64.wrap ((l_).Mul * t15))))
theorem QeV {l_ : Qb} {counts_ : (List Int)} {r : Int} (h : QaF l_ counts_ = some r) : FnOk Tryz.prog 82 [Qj.ty l_,tsl rI counts_] [] (fun _ => []) (fun _ => ti r) := by
 unfold QaF at h
 refine fe Tryz.func82 Tryz.ntmps82 fun M0 M w0 a hpl H => ?_
 replace H : St M w0 18 [(0,Qj.ty l_),(1,tsl rI counts_)] [] a w0 := H
 refine sr mx [] H (fun _ => .o (QT (R := Qj) (u := l_) z0)<|.o (Qa .k)<|.n) fun _ a w H => ?_
 have H := H.to [0,3] [_,_] [] rfl rfl
 refine wp_seq_k (fun _ k2 => ?_)
 refine sr mx [] H (fun _ => .o (Qe QeT z0)<|.o (Qf (u := (l_).B) tok3 z0 rfl)<|.o (QU z0 .k)<|.n) fun _ a w H => ?_
 have H := H.to [2,3,4] [_,_,_] [] rfl rfl
 refine wi H h (fun b6 h => ?_) (fun b6 h => ?_)
 ·refine sr mx [] H (fun _ => .o (Qe Qgh z1)<|.o (Qf (u := (l_).Mul) tok3 z0 rfl)<|.o (Qa z0)<|.n) fun _ a w H => ?_
  have H := H.to [2] [_] [] rfl rfl
  refine wp_ret ?_
  obtain rfl := sj h
  exact rt undef [] hpl H (.tmp z0 .nil)
 refine wp_skip (k2 _ _ ?_)
 have ⟨t15,ht15,h⟩ := bs h
 refine sr mx [] H (fun _ => .o (Qe Qgh z1)<|.o (Qf (u := (l_).Mul) tok3 z0 rfl)<|.q 4 rfl<|.o (Qe QeT z4)<|.o (Qf (u := (l_).B) tok3 z0 rfl)<|.o (QG ud22 tok3 z2 z0 ht15)<|.o (Qr tok3 z0)<|.o (Qm8 z5 z0)<|.o (Qa z0)<|.n) fun _ a w H => ?_
 have H := H.to [8] [_] [] rfl rfl
 refine wp_ret ?_
 obtain rfl := sj h
 exact rt undef [] hpl H (.tmp z0 .nil)

/- (*diorama/counts.search).room -/
noncomputable def Qbh (s_ : Qp) (kind_ : Int) : Option (Int × Int) := (QI (fun (s5 : Int × Int × Int) => ((if (decide (s5.1 < ((s_).limits.length : Int))) = true then ((idx (s_).limits s5.1).bind fun t18 => (if (((t18).A != kind_) || (decide ((t18).B ≥ kind_))) = true then (some (s5.2.1,s5.2.2)) else (QaF t18 ((s_).now).L).bind fun t35 => ((if (t18).Least = true then (some ((imax s5.2.1 t35),s5.2.2)) else (some (s5.2.1,(imin s5.2.2 t35))))).bind fun (p80 : Int × Int) => (some (p80.1,p80.2)))).bind fun (p63 : Int × Int) => (some (.inl ((IntKind.i64.wrap (s5.1 + (1:Int))),p63.1,p63.2))) else (some (.inr (s5.2.1,s5.2.2)))) : Option ((Int × Int × Int) ⊕ ((Int × Int))))) ((0:Int),(0:Int),(65536:Int))).bind fun (p57 : (Int × Int)) => (some (p57.1,p57.2))
theorem Qkh {s_ : Qp} {kind_ : Int} {r : Int × Int} (h : Qbh s_ kind_ = some r) : FnOk Tryz.prog 120 [tptr (QD.cs s_),ti kind_] [] (fun _ => []) (fun _ => ttup [ti r.1,ti r.2]) := by
 unfold Qbh at h
 refine fe Tryz.func120 Tryz.ntmps120 fun M0 M w0 a hpl H => ?_
 replace H : St M w0 47 [(0,tptr (QD.cs s_)),(1,ti kind_)] [] a w0 := H
 refine sr mx [] H (fun _ => .o (Qa .k)<|.o (Qa .k)<|.n) fun _ a w H => ?_
 have H := H.to [2,3] [_,_] [] rfl rfl
 refine sr mx [] H (fun _ => .o (Qa .k)<|.o (Qa .k)<|.n) fun _ a w H => ?_
 have H := H.to [0,1,2,3] [_,_,_,_] [] rfl rfl
 refine wp_seq_k (fun K3 k3 => ?_)
 refine sr mx [] H (fun _ => .q 2 rfl<|.o (QqW z0)<|.o (Qe QtV z0)<|.o (Qf (u := (s_).limits) tok31 z0 rfl)<|.o (QN ud31 z0)<|.o (Qw .k)<|.n) fun _ a w H => ?_
 have H := H.to [3,4,5,6,7,8,9] [_,_,_,_,_,_,_] [] rfl rfl
 have ⟨e6,he6,h⟩ := bs h
 have hJp57 : ∀ (p57 : Int × Int) a w,p57 = e6 → St M w0 47 [(6,ti p57.1),(7,ti p57.2)] [] a w → K3 a w := by
  intro p57 a w he H
  subst he
  refine k3 _ _ ?_
  refine sr mx [] H (fun _ => .q 0 rfl<|.q 2 rfl<|.o (Qa z1)<|.o (Qa z1)<|.n) fun _ a w H => ?_
  have H := H.to [2,3] [_,_] [] rfl rfl
  refine wp_ret ?_
  obtain rfl := sj h
  exact rt undef [] hpl H (.tmp z0 (.tmp z1 .nil))
 refine wp_block ?_
 refine QZ _ (fun (s5 : Int × Int × Int) a w => St M w0 47 [(14,tsl Qj (s_).limits),(15,ti ((s_).limits.length : Int)),(16,ti s5.1),(6,ti s5.2.1),(7,ti s5.2.2),(0,tptr (QD.cs s_)),(1,ti kind_)] [] a w) _ _ he6 (H.pick [0,1,2,3,4,5,6]) ?_
 clear h
 intro s5 o a w K59 hI h ho k59
 have H := hI
 clear hI
 refine sr mx [] H (fun _ => .o (QU z2 z1)<|.n) fun _ a w H => ?_
 have H := H.to [0,1,2,3,4,5,6,7] [_,_,_,_,_,_,_,_] [] rfl rfl
 refine wp_seq_k (fun _ k61 => ?_)
 refine wi H h (fun b84 h => ?_) (fun b84 h => ?_)
 ·refine wp_skip (k61 _ _ ?_)
  refine wp_seq_k (fun K62 k62 => ?_)
  have ⟨p63,hp63,h⟩ := bs h
  have hJp63 : ∀ a w,St M w0 47 [(14,tsl Qj (s_).limits),(15,ti ((s_).limits.length : Int)),(16,ti s5.1),(6,ti p63.1),(7,ti p63.2),(0,tptr (QD.cs s_)),(1,ti kind_)] [] a w → K62 a w := by
   intro a w H
   refine k62 _ _ ?_
   refine wr mx [] H (fun _ => .o (QV z2 .k)<|.q 0 rfl<|.n) fun _ a w H => ?_
   have H := H.to [1,2,3,4,5,6,7] [_,_,_,_,_,_,_] [] rfl rfl
   exact k59 _ _ _ (sj h).symm (H.pick [1,2,0,3,4,5,6])
  replace h := hp63
  clear hp63
  refine wp_block ?_
  have ⟨t18,ht18,h⟩ := bs h
  refine sr mx [v1 2 (fun v0 => box (Qj.cs zz5) v0),v1 2 (fun v0 => box (Qj.cs t18) v0)] H (fun _ => .o (QG ud31 QaE z1 z3 ht18)<|.o (Qr QaE z0)<|.m [] [0] rfl rfl rfl (Q1 (R := Qj) (a := zz5) QaE QrF)<|.e [] [0] [1] rfl rfl rfl rfl (QR (R := Qj) (a := t18) QaE z0 z1 (leb rfl))<|.n) fun _ a w H => ?_
  replace H : St _ _ _ [_,_,_,_,_,_,_,_] [] _ _ := (((H.pick [2,4,5,6,7,8,9,10]).shareB 0 rfl).add 0 rfl (fun _ _ _ h => h.2)).pick [0,3,4,5,6,7,8,9]
  refine wp_seq_k (fun _ k76 => ?_)
  refine sr mx [] H (fun _ => .o (Qe Qgg z0)<|.o (Qf (u := (t18).A) tok3 z0 rfl)<|.q 9 rfl<|.o (Qam z1 z0)<|.q 0 rfl<|.g rfl rfl bq0 (fun _ => Qe QeT z5)<|.g rfl rfl bq1 (fun hc => Qf (u := (t18).B) tok3 (.cond z0 hc) rfl)<|.g rfl rfl bq2 (fun _ => Qw z14)<|.g rfl rfl bq3 (fun hc => QaY (.cond z1 hc) (.cond z0 hc))<|.o (Qao z4 (fun hp => (.cond z0 (beqF hp))))<|.n) fun _ a w H => ?_
  have H := H.to [9,10,11,12,13,14,15,16,17] [_,_,_,_,_,_,_,_,_] [] rfl rfl
  refine wi H h (fun b83 h => ?_) (fun b83 h => ?_)
  ·refine wp_exit ?_
   obtain rfl := sj h
   exact hJp63 _ _ (H.pick [2,3,4,5,6,7,8])
  refine wp_skip (k76 _ _ ?_)
  have ⟨t35,ht35,h⟩ := bs h
  refine sr mx [] H (fun _ => .o (Qr QaE z1)<|.q 8 rfl<|.o (QqW z0)<|.o (Qe Qh6 z0)<|.o (Qnm (L := ((s_).now).L) Qhx tok3 z0 rfl (by decide) rfl)<|.o (Qh Qp4 (QeV ht35) (.cons (.of z4)<|.cons (.of z0)<|.nil))<|.o (Qa z0)<|.n) fun _ a w H => ?_
  have H := H.to [6,8,9,10,11,12,13,14,15] [_,_,_,_,_,_,_,_,_] [] rfl rfl
  refine sr mx [] H (fun _ => .o (Qe Ql7 z1)<|.o (Qf (u := (t18).Least) tok4 z0 rfl)<|.n) fun _ a w H => ?_
  have H := H.to [1,2,4,5,6,7,8,9,10] [_,_,_,_,_,_,_,_,_] [] rfl rfl
  have ⟨p80,hp80,h⟩ := bs h
  have hJp80 : ∀ a w,St M w0 47 [(6,ti p80.1),(14,tsl Qj (s_).limits),(15,ti ((s_).limits.length : Int)),(16,ti s5.1),(7,ti p80.2),(0,tptr (QD.cs s_)),(1,ti kind_)] [] a w → K62 a w := by
   intro a w H
   obtain rfl := sj h
   exact hJp63 _ _ (H.pick [1,2,3,0,4,5,6])
  replace h := hp80
  clear hp80
  refine wi H h (fun b82 h => ?_) (fun b82 h => ?_)
  ·refine wr mx [] H (fun _ => .q 5 rfl<|.q 2 rfl<|.o (QpG z1 z0)<|.o (Qa z0)<|.n) fun _ a w H => ?_
   have H := H.to [3,6,7,8,9,10,11] [_,_,_,_,_,_,_] [] rfl rfl
   obtain rfl := sj h
   exact hJp80 _ _ (H.pick [0,1,2,3,4,5,6])
  refine wr mx [] H (fun _ => .q 6 rfl<|.q 2 rfl<|.o (QpH z1 z0)<|.o (Qa z0)<|.n) fun _ a w H => ?_
  have H := H.to [3,6,7,8,9,10,11] [_,_,_,_,_,_,_] [] rfl rfl
  obtain rfl := sj h
  exact hJp80 _ _ (H.pick [4,1,2,3,0,5,6])
 refine wp_exit ?_
 exact hJp57 _ _ _ (ho _ (sj h).symm) (H.pick [4,5])

/- counts.values$1, by hand: Y is what a round does. -/
noncomputable def Qbu (Y : Qp → Int → Option (Qp)) (s_ : Qp) (lo_ : Int) (hi_ : Int) (kind_ : Int) : Option (Qp) := (if (decide (lo_ > hi_)) = true then (some s_) else (idx (s_).leads kind_).bind fun t16 => (if (!t16) = true then (idx (s_).want kind_).bind fun t25 => (Y s_ (imin (imax t25 lo_) hi_)).bind fun t30 => (some t30) else (QI (fun (s5 : Int × Qp) => ((opt (decide (s5.1 ≤ hi_)) (Y s5.2 s5.1) s5.2).bind fun t38 => (if (decide (s5.1 ≤ hi_)) = true then (some (.inl (IntKind.i64.wrap (s5.1 + (1:Int)),t38))) else (some (.inr t38))))) (lo_,s_))))
theorem QiZ {q : Value} {l : Nat} {LA : Atom} {Y : Qp → Int → Option (Qp)} {s_ : Qp} {lo_ hi_ kind_ : Int} {r : Qp}
  (hY : ∀ s n r,Y s n = some r → Ql5 Tryz.prog l [LA,box (QD.cs s) q] (.int .i64 n) (fun _ => [LA,box (QD.cs r) q])) (h : Qbu Y s_ lo_ hi_ kind_ = some r) :
  FnOk Tryz.prog 121 [tv (.func (.yield l) #[] #[]),tptr (rI.cs lo_),tptr (rI.cs hi_),tptr (rVal.cs q),tptr (rI.cs kind_)] [LA,box (QD.cs s_) q] (fun _ => [LA,box (QD.cs r) q]) (fun _ => ttup []) := by
 unfold Qbu at h
 refine fe Tryz.func121 Tryz.ntmps121 fun M0 M w0 a hpl H => ?_
 replace H : St M w0 42 [(0,tv (.func (.yield l) #[] #[])),(1,tptr (rI.cs lo_)),(2,tptr (rI.cs hi_)),(3,tptr (rVal.cs q)),(4,tptr (rI.cs kind_))] [LA,box (QD.cs s_) q] a w0 := H
 refine wp_seq_k (fun K2 k2 => ?_)
 refine wp_seq_k (fun K1 k1 => ?_)
 refine wr mx [] H (fun _ => .o (Qr (R := rI) (u := lo_) tok3 z1)<|.o (Qr (R := rI) (u := hi_) tok3 z3)<|.o (Qcf z1 z0)<|.n) fun _ a w H => ?_
 have H := H.to [2,3,4,5,6,7] [_,_,_,_,_,_] [_,_] rfl rfl
 refine k1 _ _ ?_
 clear k1 K1
 refine wt H (fun b1 => ?_) (fun b1 => ?_)
 ·replace h := QlZ b1 h
  refine wp_ret ?_
  obtain rfl := sj h
  exact rt undef [0,1] hpl H .nil
 replace h := Ql0 b1 h
 refine wp_skip (k2 _ _ ?_)
 clear k2 K2
 have ⟨t16,ht16,h⟩ := bs h
 refine wp_seq_k (fun K4 k4 => ?_)
 refine wp_seq_k (fun K3 k3 => ?_)
 refine wr mx [] H (fun _ => .o (Qbp QbJ z4)<|.u [1] rfl rfl (Qay z0)<|.u [1] rfl rfl (Qz QmL z0)<|.u [1] rfl rfl (QaM (R := (rSl Qa5)) (u := (s_).leads) Qsl z0 rfl)<|.o (Qr (R := rI) (u := kind_) tok3 z9)<|.o (QG Qpt tok4 z1 z0 ht16)<|.o (Qr tok4 z0)<|.o (Qar z0)<|.n) fun _ a w H => ?_
 have H := H.to [7,9,10,11,12,13] [_,_,_,_,_,_] [_,_] rfl rfl
 refine k3 _ _ ?_
 clear k3 K3
 refine wt H (fun b2 => ?_) (fun b2 => ?_)
 ·replace h := QlZ b2 h
  have ⟨t25,ht25,h⟩ := bs h
  have ⟨t30,ht30,h⟩ := bs h
  refine wp_seq_k (fun _ k5 => ?_)
  refine wr mx [v0 LA,v0 (box (QD.cs t30) q)] H (fun _ => .q 1 rfl<|.o (Qbp QbJ z5)<|.u [1] rfl rfl (Qay z0)<|.u [1] rfl rfl (Qz QmK z0)<|.u [1] rfl rfl (QaM (R := (rSl rI)) (u := (s_).want) Qgc z0 rfl)<|.o (Qr (R := rI) (u := kind_) tok3 z10)<|.o (QG ud22 tok3 z1 z0 ht25)<|.o (Qr tok3 z0)<|.o (Qr (R := rI) (u := lo_) tok3 z10)<|.o (QpG z1 z0)<|.o (Qr (R := rI) (u := hi_) tok3 z13)<|.o (QpH z1 z0)<|.e [] [0,1] [2,3] rfl rfl rfl rfl (QpQ z11 z0 (hY _ _ _ ht30))<|.n) fun _ a w H => ?_
  have H := H.to [] [] [_,_] rfl rfl
  refine k5 _ _ ?_
  refine wp_ret ?_
  obtain rfl := sj h
  exact rt undef [0,1] hpl H .nil
 replace h := Ql0 b2 h
 refine wp_skip (k4 _ _ ?_)
 clear k4 K4
 refine wp_seq_k (fun K6 k6 => ?_)
 refine wr mx [] H (fun _ => .o (Qr (R := rI) (u := lo_) tok3 z2)<|.o (Qa z0)<|.n) fun _ a w H => ?_
 have H := H.to [1,3,4,5,6,7] [_,_,_,_,_,_] [_,_] rfl rfl
 refine k6 _ _ ?_
 clear k6 K6
 refine wp_block ?_
 refine QZ _ (fun (s5 : Int × Qp) a w => St M w0 42 [(6,ti s5.1),(0,tv (.func (.yield l) #[] #[])),(1,tptr (rI.cs lo_)),(2,tptr (rI.cs hi_)),(3,tptr (rVal.cs q)),(4,tptr (rI.cs kind_))] [LA,box (QD.cs s5.2) q] a w) _ _ h H ?_
 clear h
 intro s5 o a w K7 hI h ho k7
 have H := hI
 clear hI
 have ⟨t38,ht38,h⟩ := bs h
 refine wp_seq_k (fun _ k9 => ?_)
 refine wp_seq_k (fun K8 k8 => ?_)
 refine wr mx [v0 LA,v0 (box (QD.cs (bif (decide (s5.1 ≤ hi_) == true) then t38 else s5.2)) q)] H (fun _ => .q 0 rfl<|.o (Qr (R := rI) (u := hi_) tok3 z4)<|.o (Qd5 z1 z0)<|.q 0 rfl<|.g rfl rfl bq0 (fun _ => Qw z5)<|.g rfl rfl bq1 (fun _ => Qw z5)<|.ge (N := fun c _ => [LA,box (QD.cs (bif c then t38 else s5.2)) q]) [] [0,1] [2,3] rfl rfl rfl rfl rfl bq2 (fun hc => QpQ (.cond z1 hc) (.cond z0 hc) (hY _ _ _ (Q9 ht38 (by simpa using hc)))) rfl<|.o (QY z3 (fun hp => (.cond z0 (beqT hp))))<|.n) fun _ a w H => ?_
 have H := H.to [7,8,9,10,11,12,13] [_,_,_,_,_,_,_] [_,_] rfl rfl
 refine k8 _ _ ?_
 clear k8 K8
 have hts : decide (s5.1 ≤ hi_) = false → t38 = s5.2 := fun hf => by
  unfold opt at ht38
  rw [hf] at ht38
  exact (sj ht38).symm
 refine wt H (fun b3 => ?_) (fun b3 => ?_)
 ·have hb : decide (s5.1 ≤ hi_) = true := by simpa using b3
  replace h := QlZ hb h
  have ec : (bif (decide (s5.1 ≤ hi_) == true) then t38 else s5.2) = t38 := by rw [hb]; rfl
  rw [ec] at H
  refine wp_skip (k9 _ _ ?_)
  refine wp_seq_k (fun _ k10 => ?_)
  refine wp_block ?_
  refine wp_skip (k10 _ _ ?_)
  refine wr mx [] H (fun _ => .q 1 rfl<|.o (QV z0 .k)<|.o (Qa z0)<|.n) fun _ a w H => ?_
  have H := H.to [2,4,5,6,7,8] [_,_,_,_,_,_] [_,_] rfl rfl
  exact k7 _ _ _ (sj h).symm H
 have hb : decide (s5.1 ≤ hi_) = false := by simpa using b3
 replace h := Ql0 hb h
 have ht := hts hb
 have ec : (bif (decide (s5.1 ≤ hi_) == true) then t38 else s5.2) = s5.2 := by rw [hb]; rfl
 rw [ec] at H
 refine wp_exit ?_
 have hr := ho _ (sj h).symm
 rw [← ht,hr] at H
 exact Qn6 undef [0,1] hpl H rfl .nil rfl rfl rfl

end Go.Proofs.YtcdccjagknlmpaaGreatDoor
