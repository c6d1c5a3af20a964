/- Go functions as Lean functions, and the proofs that they compute them, written by a program. No condition. -/
import Derived.Test.YtcdccjagknlmpaaGreatDoorGenG
namespace Go.Proofs.YtcdccjagknlmpaaGreatDoor
open Go.Sim
set_option maxRecDepth 100000
set_option maxHeartbeats 4000000

/- diorama/dioramaref10.Up -/
noncomputable def QgS (x_ : Qh) (kind_ : Int) (field_ : Int) : Option (Int) := (Qit x_ kind_ field_).bind fun t13 => (if (!t13) = true then (some (-1:Int)) else (idx (x_).Kinds kind_).bind fun t18 => (idx (t18).Fields field_).bind fun t22 => (jn (fun (p9 : Qc) => (if ((p9).Kind != (1:Int)) = true then (some (-1:Int)) else (Qct x_ (p9).Of).bind fun t62 => (if (decide (t62 ≥ kind_)) = true then (some (-1:Int)) else (some t62)))) fun j16 => (if (((t22).Kind == (7:Int)) || ((t22).Kind == (8:Int))) = true then (idx (x_).Kinds kind_).bind fun t35 => (Qcu t35 (t22).Up).bind fun t39 => (if ((decide (t39 < (0:Int))) || (decide (t39 ≥ field_))) = true then (some (-1:Int)) else (idx (x_).Kinds kind_).bind fun t50 => (idx (t50).Fields t39).bind fun t54 => (j16 t54)) else (j16 t22))))
theorem QkV {x_ : Qh} {kind_ : Int} {field_ : Int} {r : Int} (h : QgS x_ kind_ field_ = some r) : FnOk Tryz.prog 116 [Qg.ty x_,ti kind_,ti field_] [] (fun _ => []) (fun _ => ti r) := by
 unfold QgS at h
 refine fe Tryz.func116 Tryz.ntmps116 fun M0 M w0 a hpl H => ?_
 replace H : St M w0 67 [(0,Qg.ty x_),(1,ti kind_),(2,ti field_)] [] a w0 := H
 refine sr mx [] H (fun _ => .o (QV (R := Qg) (u := x_) z0)<|.o (Qa .k)<|.n) fun _ a w H => ?_
 have H := H.to [0,3,4] [_,_,_] [] rfl rfl
 refine wp_seq_k (fun _ k2 => ?_)
 have ⟨t13,ht13,h⟩ := bs h
 refine sr mx [] H (fun _ => .o (Qm Qar z0)<|.q 2 rfl<|.q 4 rfl<|.o (Qf Quj (Qqe ht13) (.cons (.of z2)<|.cons (.of z1)<|.cons (.of z0)<|.nil))<|.o (Qae z0)<|.n) fun _ a w H => ?_
 have H := H.to [4,5,6,7] [_,_,_,_] [] rfl rfl
 refine wi H h (fun b33 h => ?_) (fun b33 h => ?_)
 ·refine sr mx [] H (fun _ => .o (Qa .k)<|.n) fun _ a w H => ?_
  have H := H.to [0] [_] [] rfl rfl
  refine wp_ret ?_
  obtain rfl := sj h
  exact rt undef [] hpl H (.tmp z0 .nil)
 refine wp_skip (k2 _ _ ?_)
 have ⟨t18,ht18,h⟩ := bs h
 have ⟨t22,ht22,h⟩ := bs h
 refine sr mx [v1 9 (fun v0 => box (Qb.cs zz0) v0),v1 9 (fun v0 => box (Qb.cs t22) v0)] H (fun _ => .o (Qe Q9 z1)<|.o (Qd (u := (x_).Kinds) QaF z0 rfl)<|.q 4 rfl<|.o (Qr ud23 QZ z1 z0 ht18)<|.o (Qe Qaf z0)<|.o (Qd (u := (t18).Fields) QaK z0 rfl)<|.q 9 rfl<|.o (Qr ud53 QI z1 z0 ht22)<|.o (Qm QI z0)<|.m [] [0] rfl rfl rfl (Q0 (R := Qb) (a := zz0) QI Qcy)<|.e [] [0] [1] rfl rfl rfl rfl (QS (R := Qb) (a := t22) QI z0 z1 (leb rfl))<|.n) fun n3 a w H => ?_
 have H := H.to [9,11,12,13] [_,_,_,_] [_] rfl rfl
 refine wp_seq_k (fun K7 k7 => ?_)
 refine sr mx [] H (fun _ => .u [0] rfl rfl (Qu Qao z0)<|.u [0] rfl rfl (Qav (R := rI) (u := (t22).Kind) tok3 z0 rfl)<|.o (QM z0 .k)<|.q 0 rfl<|.gu [0] rfl rfl rfl bq0 (fun _ => Qu Qao z4)<|.gu [0] rfl rfl rfl bq1 (fun hc => Qav (R := rI) (u := (t22).Kind) tok3 (.cond z0 hc) rfl)<|.g rfl rfl bq2 (fun hc => QM (.cond z0 hc) .k)<|.o (Q6 z3 (fun hp => (.cond z0 (beqF hp))))<|.n) fun _ a w H => ?_
 have H := H.to [7,8,9,10,11] [_,_,_,_,_] [_] rfl rfl
 obtain ⟨j16,hj16,h⟩ := QmM h
 have hJp9 : ∀ (p9 : Qc) a w,j16 p9 = some r → St M w0 67 [(7,tv (n3 9)),(3,tptr (Qg.cs x_)),(1,ti kind_)] [box (Qb.cs p9) (n3 9)] a w → K7 a w := by
  intro p9 a w h H
  rw [hj16] at h
  clear hj16
  refine k7 _ _ ?_
  refine wp_seq_k (fun _ k17 => ?_)
  refine sr mx [] H (fun _ => .u [0] rfl rfl (Qu Qao z0)<|.u [0] rfl rfl (Qav (R := rI) (u := (p9).Kind) tok3 z0 rfl)<|.o (Qau z0 .k)<|.n) fun _ a w H => ?_
  have H := H.to [2,3,4,5] [_,_,_,_] [_] rfl rfl
  refine wi H h (fun b26 h => ?_) (fun b26 h => ?_)
  ·refine sr mx [] H (fun _ => .o (Qa .k)<|.n) fun _ a w H => ?_
   replace H : St _ _ _ [_] [] _ _ := (H.pick [0]).selA [] rfl
   refine wp_ret ?_
   obtain rfl := sj h
   exact rt undef [] hpl H (.tmp z0 .nil)
  refine wp_skip (k17 _ _ ?_)
  have ⟨t62,ht62,h⟩ := bs h
  refine sr mx [] H (fun _ => .o (Qm Qar z2)<|.u [0] rfl rfl (Qu Qas z2)<|.u [0] rfl rfl (Qav (R := rS) (u := (p9).Of) tok9 z0 rfl)<|.o (Qf Qlb (Qe1 ht62) (.cons (.of z2)<|.cons (.of z0)<|.nil))<|.o (Qa z0)<|.n) fun _ a w H => ?_
  replace H : St _ _ _ [_,_] [] _ _ := (H.pick [4,8]).selA [] rfl
  refine wp_seq_k (fun _ k21 => ?_)
  refine sr mx [] H (fun _ => .q 0 rfl<|.q 2 rfl<|.o (QaJ z1 z0)<|.n) fun _ a w H => ?_
  have H := H.to [2,3] [_,_] [] rfl rfl
  refine wi H h (fun b25 h => ?_) (fun b25 h => ?_)
  ·refine sr mx [] H (fun _ => .o (Qa .k)<|.n) fun _ a w H => ?_
   have H := H.to [0] [_] [] rfl rfl
   refine wp_ret ?_
   obtain rfl := sj h
   exact rt undef [] hpl H (.tmp z0 .nil)
  refine wp_skip (k21 _ _ ?_)
  refine sr mx [] H (fun _ => .q 1 rfl<|.o (Qa z0)<|.n) fun _ a w H => ?_
  have H := H.to [1] [_] [] rfl rfl
  refine wp_ret ?_
  obtain rfl := sj h
  exact rt undef [] hpl H (.tmp z0 .nil)
 clear hj16
 refine wi H h (fun b32 h => ?_) (fun b32 h => ?_)
 ·have ⟨t35,ht35,h⟩ := bs h
  have ⟨t39,ht39,h⟩ := bs h
  refine sr mx [] H (fun _ => .o (Qe Q9 z2)<|.o (Qd (u := (x_).Kinds) QaF z0 rfl)<|.q 5 rfl<|.o (Qr ud23 QZ z1 z0 ht35)<|.o (Qm QZ z0)<|.u [0] rfl rfl (Qu Qda z6)<|.u [0] rfl rfl (Qav (R := rS) (u := (t22).Up) tok9 z0 rfl)<|.o (Qf Qmm (Qfw ht39) (.cons (.of z2)<|.cons (.of z0)<|.nil))<|.o (Qa z0)<|.n) fun _ a w H => ?_
  have H := H.to [8,10,11,12,13] [_,_,_,_,_] [_] rfl rfl
  refine wp_seq_k (fun _ k28 => ?_)
  refine sr mx [] H (fun _ => .q 0 rfl<|.o (QG z0 .k)<|.q 0 rfl<|.g rfl rfl bq0 (fun _ => Qq z3)<|.g rfl rfl bq1 (fun _ => Qq z8)<|.g rfl rfl bq2 (fun hc => QaJ (.cond z1 hc) (.cond z0 hc))<|.o (Q6 z3 (fun hp => (.cond z0 (beqF hp))))<|.n) fun _ a w H => ?_
  have H := H.to [6,7,8,9,10] [_,_,_,_,_] [_] rfl rfl
  refine wi H h (fun b31 h => ?_) (fun b31 h => ?_)
  ·refine sr mx [] H (fun _ => .o (Qa .k)<|.n) fun _ a w H => ?_
   replace H : St _ _ _ [_] [] _ _ := (H.pick [0]).selA [] rfl
   refine wp_ret ?_
   obtain rfl := sj h
   exact rt undef [] hpl H (.tmp z0 .nil)
  refine wp_skip (k28 _ _ ?_)
  have ⟨t50,ht50,h⟩ := bs h
  have ⟨t54,ht54,h⟩ := bs h
  refine wr mx [v0 (box (Qb.cs t54) (n3 9))] H (fun _ => .o (Qe Q9 z3)<|.o (Qd (u := (x_).Kinds) QaF z0 rfl)<|.q 6 rfl<|.o (Qr ud23 QZ z1 z0 ht50)<|.o (Qe Qaf z0)<|.o (Qd (u := (t50).Fields) QaK z0 rfl)<|.q 7 rfl<|.o (Qr ud53 QI z1 z0 ht54)<|.o (Qm QI z0)<|.e [] [0] [1] rfl rfl rfl rfl (QS (R := Qb) (a := t54) QI z11 z0 (leb rfl))<|.n) fun _ a w H => ?_
  have H := H.to [11,12,13] [_,_,_] [_] rfl rfl
  exact hJp9 _ _ _ h (H.pick [0,1,2])
 refine wp_skip ?_
 exact hJp9 _ _ _ h (H.pick [1,2,3])

/- diorama/dioramaref10.Sums -/
noncomputable def Qhy (x_ : Qh) (kind_ : Int) (field_ : Int) : Option (Int × (List Int)) := (idx (x_).Kinds kind_).bind fun t16 => (idx (t16).Fields field_).bind fun t20 => (Qct x_ (t20).Of).bind fun t25 => (if (((t20).Kind != (6:Int)) || (decide (t25 ≤ kind_))) = true then (some ((-1:Int),([] : List Int))) else (idx (x_).Kinds t25).bind fun t37 => (QF (fun (s13 : Int × List Int) => ((if (decide (s13.1 < ((t37).Fields.length : Int))) = true then (idx (t37).Fields s13.1).bind fun t48 => (opt (((t48).Kind == (7:Int)) == true) (idx (t37).Fields s13.1) default).bind fun t55 => (opt ((((t48).Kind == (7:Int)) && ((t55).Of == (t20).Name)) == true) (QgS x_ t25 s13.1) default).bind fun t66 => ((if ((((t48).Kind == (7:Int)) && ((t55).Of == (t20).Name)) && (t66 == kind_)) = true then (rm (s13.2.length + [s13.1].length)).bind fun _ => (some (s13.2 ++ [s13.1])) else (some s13.2))).bind fun (p42 : List Int) => (some (.inl ((IntKind.i64.wrap (s13.1 + (1:Int))),p42))) else (some (.inr s13.2))) : Option ((Int × List Int) ⊕ ((List Int))))) ((0:Int),([] : List Int))).bind fun (p34 : (List Int)) => (some (t25,p34)))
theorem Qpy {x_ : Qh} {kind_ : Int} {field_ : Int} {r : Int × (List Int)} (h : Qhy x_ kind_ field_ = some r) : FnOk Tryz.prog 117 [Qg.ty x_,ti kind_,ti field_] [] (fun _ => []) (fun _ => ttup [ti r.1,tsl rI r.2]) := by
 unfold Qhy at h
 refine fe Tryz.func117 Tryz.ntmps117 fun M0 M w0 a hpl H => ?_
 replace H : St M w0 76 [(0,Qg.ty x_),(1,ti kind_),(2,ti field_)] [] a w0 := H
 refine sr mx [] H (fun _ => .o (QV (R := Qg) (u := x_) z0)<|.o (Qa .k)<|.o (Qa (.nilsl (R := rI)))<|.n) fun _ a w H => ?_
 have H := H.to [0,4,5] [_,_,_] [] rfl rfl
 have ⟨t16,ht16,h⟩ := bs h
 have ⟨t20,ht20,h⟩ := bs h
 refine sr mx [v1 9 (fun v0 => box (Qb.cs zz0) v0),v1 9 (fun v0 => box (Qb.cs t20) v0)] H (fun _ => .o (Qe Q9 z0)<|.o (Qd (u := (x_).Kinds) QaF z0 rfl)<|.q 3 rfl<|.o (Qr ud23 QZ z1 z0 ht16)<|.o (Qe Qaf z0)<|.o (Qd (u := (t16).Fields) QaK z0 rfl)<|.q 8 rfl<|.o (Qr ud53 QI z1 z0 ht20)<|.o (Qm QI z0)<|.m [] [0] rfl rfl rfl (Q0 (R := Qb) (a := zz0) QI Qcy)<|.e [] [0] [1] rfl rfl rfl rfl (QS (R := Qb) (a := t20) QI z0 z1 (leb rfl))<|.n) fun _ a w H => ?_
 replace H : St _ _ _ [_,_,_] [] _ _ := (((H.pick [9,10,11]).shareB 0 rfl).add 0 rfl (fun _ _ _ h => h.2)).pick [0,3,4]
 have ⟨t25,ht25,h⟩ := bs h
 refine sr mx [] H (fun _ => .o (Qm Qar z1)<|.o (Qe Qas z1)<|.o (Qd (u := (t20).Of) tok9 z0 rfl)<|.o (Qf Qlb (Qe1 ht25) (.cons (.of z2)<|.cons (.of z0)<|.nil))<|.o (Qa z0)<|.n) fun _ a w H => ?_
 have H := H.to [4,5,6,7] [_,_,_,_] [] rfl rfl
 refine wp_seq_k (fun _ k5 => ?_)
 refine sr mx [] H (fun _ => .o (Qe Qao z1)<|.o (Qd (u := (t20).Kind) tok3 z0 rfl)<|.o (Qau z0 .k)<|.q 0 rfl<|.g rfl rfl bq0 (fun _ => Qq z4)<|.g rfl rfl bq1 (fun _ => Qq z8)<|.g rfl rfl bq2 (fun hc => QcK (.cond z1 hc) (.cond z0 hc))<|.o (Q6 z3 (fun hp => (.cond z0 (beqF hp))))<|.n) fun _ a w H => ?_
 have H := H.to [7,8,9,10,11] [_,_,_,_,_] [] rfl rfl
 refine wi H h (fun b47 h => ?_) (fun b47 h => ?_)
 ·refine sr mx [] H (fun _ => .o (Qa .k)<|.o (Qa (.nilsl (R := rI)))<|.n) fun _ a w H => ?_
  have H := H.to [0,1] [_,_] [] rfl rfl
  refine wp_ret ?_
  obtain rfl := sj h
  exact rt undef [] hpl H (.tmp z0 (.tmp z1 .nil))
 refine wp_skip (k5 _ _ ?_)
 refine sr mx [] H (fun _ => .o (Qa .k)<|.n) fun _ a w H => ?_
 replace H : St _ _ _ [_,_,_,_,_] [_] _ _ := (H.pick [0,2,3,4,5]).nil (rI) 3
 have ⟨t37,ht37,h⟩ := bs h
 refine sr mx [] H (fun _ => .o (Qe Q9 z3)<|.o (Qd (u := (x_).Kinds) QaF z0 rfl)<|.q 3 rfl<|.o (Qr ud23 QZ z1 z0 ht37)<|.o (Qe Qaf z0)<|.o (Qd (u := (t37).Fields) QaK z0 rfl)<|.o (Qa z0)<|.n) fun _ a w H => ?_
 have H := H.to [6,7,8,9,10,11] [_,_,_,_,_,_] [_] rfl rfl
 refine wp_seq_k (fun K11 k11 => ?_)
 refine sr mx [] H (fun _ => .o (Qa .k)<|.n) fun _ a w H => ?_
 have H := H.to [0,1,2,3,4,5,6] [_,_,_,_,_,_,_] [_] rfl rfl
 have ⟨e14,he14,h⟩ := bs h
 have hJp34 : ∀ (p34 : List Int) (v35 : Value) a w,p34 = e14 → St M w0 76 [(10,tv v35),(9,ti t25)] [own rI 3 p34 v35] a w → K11 a w := by
  intro p34 v35 a w he H
  subst he
  refine k11 _ _ ?_
  refine sr mx [] H (fun _ => .q 1 rfl<|.q 1 rfl<|.o (Qa z1)<|.o (Qa z1)<|.n) fun _ a w H => ?_
  have H := H.to [1,2,3,4] [_,_,_,_] [_] rfl rfl
  refine wp_ret ?_
  replace H : St _ _ _ [_,_] [] _ _ := (H.shareO 2 rfl).pick [0,2]
  obtain rfl := sj h
  exact rt undef [] hpl H (.tmp z1 (.tmp z0 .nil))
 refine wp_block ?_
 refine QR _ (fun (s13 : Int × List Int) a w => ∃ v24 : Value,St M w0 76 [(12,ti s13.1),(11,tsl Qb (t37).Fields),(10,tv v24),(9,ti t25),(8,tptr (Qb.cs t20)),(3,tptr (Qg.cs x_)),(1,ti kind_)] [own rI 3 s13.2 v24] a w) _ _ he14 ⟨(.slice none 0 0),H.pick [0,1,2,3,4,5,6]⟩ ?_
 clear h
 intro s13 o a w K37 hI h ho k37
 obtain ⟨v24,H⟩ := hI
 refine wp_seq_k (fun _ k38 => ?_)
 refine sr mx [] H (fun _ => .q 0 rfl<|.q 2 rfl<|.o (QE ud53 z0)<|.o (QG z2 z0)<|.n) fun _ a w H => ?_
 have H := H.to [3,4,5,6,7,8,9,10] [_,_,_,_,_,_,_,_] [_] rfl rfl
 refine wi H h (fun b46 h => ?_) (fun b46 h => ?_)
 ·refine wp_skip (k38 _ _ ?_)
  refine wp_seq_k (fun K40 k40 => ?_)
  refine wp_block ?_
  have ⟨t48,ht48,h⟩ := bs h
  have ⟨t55,ht55,h⟩ := bs h
  have ⟨t66,ht66,h⟩ := bs h
  refine sr mx [] H (fun _ => .q 2 rfl<|.q 2 rfl<|.o (Qr ud53 QI z1 z0 ht48)<|.o (Qe Qao z0)<|.o (Qd (u := (t48).Kind) tok3 z0 rfl)<|.o (QM z0 .k)<|.q 0 rfl<|.g rfl rfl bq0 (fun _ => Qq z9)<|.g rfl rfl bq1 (fun _ => Qq z9)<|.g rfl rfl bq2 (fun hc => Qr ud53 QI (.cond z1 hc) (.cond z0 hc) (Qaj ht55 hc))<|.g rfl rfl bq3 (fun hc => Qe Qas (.cond z0 hc))<|.g rfl rfl bq4 (fun hc => Qd (u := (t55).Of) tok9 (.cond z0 hc) rfl)<|.g rfl rfl bq5 (fun _ => Qe Qbd z17)<|.g rfl rfl bq6 (fun hc => Qd (u := (t20).Name) tok9 (.cond z0 hc) rfl)<|.g rfl rfl bq7 (fun hc => Qa6 (.cond z2 hc) (.cond z0 hc))<|.o (QW z8 (fun hp => (.cond z0 (beqT hp))))<|.q 0 rfl<|.g rfl rfl bq0 (fun _ => Qm Qar z23)<|.g rfl rfl bq1 (fun _ => Qq z22)<|.g rfl rfl bq2 (fun _ => Qq z20)<|.g rfl rfl bq3 (fun hc => Qf QoC (QkV (Qaj ht66 hc)) (.cons (.of (.cond z2 hc))<|.cons (.of (.cond z1 hc))<|.cons (.of (.cond z0 hc))<|.nil))<|.g rfl rfl bq4 (fun _ => Qq z28)<|.g rfl rfl bq5 (fun hc => QM (.cond z1 hc) (.cond z0 hc))<|.o (QW z6 (fun hp => (.cond z0 (beqT hp))))<|.n) fun _ a w H => ?_
  have H := H.to [23,25,26,27,28,29,30,31] [_,_,_,_,_,_,_,_] [_] rfl rfl
  have ⟨p42,hp42,h⟩ := bs h
  have hJp42 : ∀ (v44 : Value) a w,St M w0 76 [(10,tv v44),(12,ti s13.1),(11,tsl Qb (t37).Fields),(9,ti t25),(8,tptr (Qb.cs t20)),(3,tptr (Qg.cs x_)),(1,ti kind_)] [own rI 3 p42 v44] a w → K40 a w := by
   intro v44 a w H
   refine k40 _ _ ?_
   refine wr mx [] H (fun _ => .q 1 rfl<|.o (QQ z0 .k)<|.o (Qa z0)<|.n) fun _ a w H => ?_
   have H := H.to [2,3,4,5,6,7,8] [_,_,_,_,_,_,_] [_] rfl rfl
   exact k37 _ _ _ (sj h).symm ⟨v44,H.pick [0,2,1,3,4,5,6]⟩
  replace h := hp42
  clear hp42
  refine wi H h (fun b45 h => ?_) (fun b45 h => ?_)
  ·have ⟨u73,hu73,h⟩ := bs h
   refine wr mx [v1 3 (fun v0 => own rI 3 (s13.2 ++ [s13.1]) v0)] H (fun _ => .q 3 rfl<|.q 2 rfl<|.o (Qy (R := rI) (us := [s13.1]) ud22 tok3 (.cons z0<|.nil _) rfl (leb rfl))<|.e [] [0] [1] rfl rfl rfl rfl (Qag (R := rI) ud22 tok3 (leb rfl) z2 z0 hu73)<|.ud (f := fun v => tv v) 3 rfl [] rfl rfl (Qa z0)<|.n) fun n11 a w H => ?_
   have H := H.to [3,4,6,7,8,9,10,11] [_,_,_,_,_,_,_,_] [_] rfl rfl
   obtain rfl := sj h
   exact hJp42 (n11 3) _ _ (H.pick [1,2,3,4,5,6,7])
  refine wp_skip ?_
  obtain rfl := sj h
  exact hJp42 v24 _ _ (H.pick [3,1,2,4,5,6,7])
 refine wp_exit ?_
 exact hJp34 _ v24 _ _ (ho _ (sj h).symm) (H.pick [3,4])

/- diorama/dioramaref10.Above -/
noncomputable def QgT (x_ : Qh) (kind_ : Int) (field_ : Int) : Option (Int × Qc) := (QgS x_ kind_ field_).bind fun t13 => (if (decide (t13 < (0:Int))) = true then (some ((-1:Int),zz0)) else (idx (x_).Kinds t13).bind fun t20 => (idx (x_).Kinds kind_).bind fun t25 => (idx (t25).Fields field_).bind fun t29 => (Qcu t20 (t29).Of).bind fun t32 => (if (decide (t32 < (0:Int))) = true then (some ((-1:Int),zz0)) else (idx (x_).Kinds t13).bind fun t39 => (idx (t39).Fields t32).bind fun t43 => (idx (x_).Kinds t13).bind fun t49 => (idx (t49).Fields t32).bind fun t53 => (some ((t43).Kind,t53))))
theorem QoO {x_ : Qh} {kind_ : Int} {field_ : Int} {r : Int × Qc} (h : QgT x_ kind_ field_ = some r) : FnOk Tryz.prog 148 [Qg.ty x_,ti kind_,ti field_] [] (fun _ => []) (fun _ => ttup [ti r.1,Qb.ty r.2]) := by
 unfold QgT at h
 refine fe Tryz.func148 Tryz.ntmps148 fun M0 M w0 a hpl H => ?_
 replace H : St M w0 55 [(0,Qg.ty x_),(1,ti kind_),(2,ti field_)] [] a w0 := H
 refine sr mx [v1 2 (fun v0 => box (Qb.cs zz0) v0)] H (fun _ => .o (QV (R := Qg) (u := x_) z0)<|.o (Qa .k)<|.m [] [0] rfl rfl rfl (Q0 (R := Qb) (a := zz0) QI Qcy)<|.n) fun n0 a w H => ?_
 have H := H.to [0,2,4,5] [_,_,_,_] [_] rfl rfl
 have ⟨t13,ht13,h⟩ := bs h
 refine sr mx [] H (fun _ => .o (Qm Qar z0)<|.q 3 rfl<|.q 5 rfl<|.o (Qf QoC (QkV ht13) (.cons (.of z2)<|.cons (.of z1)<|.cons (.of z0)<|.nil))<|.o (Qa z0)<|.n) fun _ a w H => ?_
 have H := H.to [4,5,6,7,8] [_,_,_,_,_] [_] rfl rfl
 refine wp_seq_k (fun _ k4 => ?_)
 refine sr mx [] H (fun _ => .q 0 rfl<|.o (QG z0 .k)<|.n) fun _ a w H => ?_
 have H := H.to [1,2,3,4,5,6] [_,_,_,_,_,_] [_] rfl rfl
 refine wi H h (fun b13 h => ?_) (fun b13 h => ?_)
 ·refine sr mx [v0 (box (Qb.cs zz0) (n0 2))] H (fun _ => .p (T := Qb.ty zz0) rfl (QY ud61 pl61 zv61 zc61 (.nil _))<|.o (Qa .k)<|.e [] [0] [1] rfl rfl rfl rfl (QS (R := Qb) (a := zz0) QI z5 z1 (leb rfl))<|.n) fun _ a w H => ?_
  have H := H.to [1,5] [_,_] [_] rfl rfl
  refine wp_ret ?_
  obtain rfl := sj h
  exact rt undef [] hpl H (.tmp z0 (.cell (R := Qb) (u := zz0) QI z1 0 rfl rfl .nil))
 refine wp_skip (k4 _ _ ?_)
 have ⟨t20,ht20,h⟩ := bs h
 have ⟨t25,ht25,h⟩ := bs h
 have ⟨t29,ht29,h⟩ := bs h
 have ⟨t32,ht32,h⟩ := bs h
 refine sr mx [] H (fun _ => .o (Qe Q9 z2)<|.o (Qd (u := (x_).Kinds) QaF z0 rfl)<|.q 3 rfl<|.o (Qr ud23 QZ z1 z0 ht20)<|.o (Qm QZ z0)<|.o (Qe Q9 z7)<|.o (Qd (u := (x_).Kinds) QaF z0 rfl)<|.q 11 rfl<|.o (Qr ud23 QZ z1 z0 ht25)<|.o (Qe Qaf z0)<|.o (Qd (u := (t25).Fields) QaK z0 rfl)<|.q 16 rfl<|.o (Qr ud53 QI z1 z0 ht29)<|.o (Qe Qas z0)<|.o (Qd (u := (t29).Of) tok9 z0 rfl)<|.o (Qf Qmm (Qfw ht32) (.cons (.of z10)<|.cons (.of z0)<|.nil))<|.o (Qa z0)<|.n) fun _ a w H => ?_
 have H := H.to [16,18,19,20] [_,_,_,_] [_] rfl rfl
 refine wp_seq_k (fun _ k8 => ?_)
 refine sr mx [] H (fun _ => .q 0 rfl<|.o (QG z0 .k)<|.n) fun _ a w H => ?_
 have H := H.to [1,2,3,4,5] [_,_,_,_,_] [_] rfl rfl
 refine wi H h (fun b12 h => ?_) (fun b12 h => ?_)
 ·refine sr mx [v0 (box (Qb.cs zz0) (n0 2))] H (fun _ => .p (T := Qb.ty zz0) rfl (QY ud61 pl61 zv61 zc61 (.nil _))<|.o (Qa .k)<|.e [] [0] [1] rfl rfl rfl rfl (QS (R := Qb) (a := zz0) QI z6 z1 (leb rfl))<|.n) fun _ a w H => ?_
  have H := H.to [1,6] [_,_] [_] rfl rfl
  refine wp_ret ?_
  obtain rfl := sj h
  exact rt undef [] hpl H (.tmp z0 (.cell (R := Qb) (u := zz0) QI z1 0 rfl rfl .nil))
 refine wp_skip (k8 _ _ ?_)
 have ⟨t39,ht39,h⟩ := bs h
 have ⟨t43,ht43,h⟩ := bs h
 have ⟨t49,ht49,h⟩ := bs h
 have ⟨t53,ht53,h⟩ := bs h
 refine sr mx [v0 (box (Qb.cs t53) (n0 2))] H (fun _ => .o (Qe Q9 z3)<|.o (Qd (u := (x_).Kinds) QaF z0 rfl)<|.q 4 rfl<|.o (Qr ud23 QZ z1 z0 ht39)<|.o (Qe Qaf z0)<|.o (Qd (u := (t39).Fields) QaK z0 rfl)<|.q 7 rfl<|.o (Qr ud53 QI z1 z0 ht43)<|.o (Qe Qao z0)<|.o (Qd (u := (t43).Kind) tok3 z0 rfl)<|.o (Qe Q9 z13)<|.o (Qd (u := (x_).Kinds) QaF z0 rfl)<|.q 14 rfl<|.o (Qr ud23 QZ z1 z0 ht49)<|.o (Qe Qaf z0)<|.o (Qd (u := (t49).Fields) QaK z0 rfl)<|.q 17 rfl<|.o (Qr ud53 QI z1 z0 ht53)<|.o (Qm QI z0)<|.o (Qa z9)<|.e [] [0] [1] rfl rfl rfl rfl (QS (R := Qb) (a := t53) QI z24 z1 (leb rfl))<|.n) fun _ a w H => ?_
 have H := H.to [19,24] [_,_] [_] rfl rfl
 refine wp_ret ?_
 obtain rfl := sj h
 exact rt undef [] hpl H (.tmp z0 (.cell (R := Qb) (u := t53) QI z1 0 rfl rfl .nil))

/- diorama/dioramaref10.above -/
noncomputable def Qiu (x_ : Qh) (kind_ : Int) (field_ : Int) (up_ : Int) : Option (Int) := (if (decide (up_ < (0:Int))) = true then (some (12:Int)) else (QgT x_ kind_ field_).bind fun t17 => (idx (x_).Kinds kind_).bind fun t23 => (idx (t23).Fields field_).bind fun t27 => (if ((t27).Kind == (7:Int)) = true then (opt ((t17.1 != (6:Int)) == false) (Qct x_ (t17.2).Of) default).bind fun t37 => (if ((t17.1 != (6:Int)) || (t37 != kind_)) = true then (some (13:Int)) else (some (0:Int))) else (if (((((decide (t17.1 < (0:Int))) || (t17.1 == (0:Int))) || (t17.1 == (1:Int))) || (t17.1 == (6:Int))) || (t17.1 == (7:Int))) = true then (some (13:Int)) else (some (0:Int)))))
theorem QoP {x_ : Qh} {kind_ : Int} {field_ : Int} {up_ : Int} {r : Int} (h : Qiu x_ kind_ field_ up_ = some r) : FnOk Tryz.prog 118 [Qg.ty x_,ti kind_,ti field_,ti up_] [] (fun _ => []) (fun _ => ti r) := by
 unfold Qiu at h
 refine fe Tryz.func118 Tryz.ntmps118 fun M0 M w0 a hpl H => ?_
 replace H : St M w0 59 [(0,Qg.ty x_),(1,ti kind_),(2,ti field_),(3,ti up_)] [] a w0 := H
 refine sr mx [] H (fun _ => .o (QV (R := Qg) (u := x_) z0)<|.o (Qa .k)<|.n) fun _ a w H => ?_
 have H := H.to [0,3,4,5] [_,_,_,_] [] rfl rfl
 refine wp_seq_k (fun _ k2 => ?_)
 refine sr mx [] H (fun _ => .q 3 rfl<|.o (QG z0 .k)<|.n) fun _ a w H => ?_
 have H := H.to [1,2,3,4] [_,_,_,_] [] rfl rfl
 refine wi H h (fun b20 h => ?_) (fun b20 h => ?_)
 ·refine sr mx [] H (fun _ => .o (Qa .k)<|.n) fun _ a w H => ?_
  have H := H.to [0] [_] [] rfl rfl
  refine wp_ret ?_
  obtain rfl := sj h
  exact rt undef [] hpl H (.tmp z0 .nil)
 refine wp_skip (k2 _ _ ?_)
 have ⟨t17,ht17,h⟩ := bs h
 refine sr mx [v1 7 (fun v0 => box (Qb.cs zz0) v0),v1 7 (fun v0 => box (Qb.cs t17.2) v0)] H (fun _ => .o (Qm Qar z1)<|.q 3 rfl<|.q 5 rfl<|.o (Qf Quk (QoO ht17) (.cons (.of z2)<|.cons (.of z1)<|.cons (.of z0)<|.nil))<|.q 0 rfl<|.o (QU z0 rfl)<|.o (QU z1 rfl)<|.m [] [0] rfl rfl rfl (Q0 (R := Qb) (a := zz0) QI Qcy)<|.o (Qa z2)<|.e [] [0] [1] rfl rfl rfl rfl (QS (R := Qb) (a := t17.2) QI z1 z2 (leb rfl))<|.n) fun _ a w H => ?_
 replace H : St _ _ _ [_,_,_,_,_] [] _ _ := (((H.pick [7,8,10,11,12]).shareB 0 rfl).add 0 rfl (fun _ _ _ h => h.2)).pick [0,3,4,5,6]
 refine wp_seq_k (fun _ k7 => ?_)
 have ⟨t23,ht23,h⟩ := bs h
 have ⟨t27,ht27,h⟩ := bs h
 refine sr mx [] H (fun _ => .o (Qe Q9 z2)<|.o (Qd (u := (x_).Kinds) QaF z0 rfl)<|.q 5 rfl<|.o (Qr ud23 QZ z1 z0 ht23)<|.o (Qe Qaf z0)<|.o (Qd (u := (t23).Fields) QaK z0 rfl)<|.q 10 rfl<|.o (Qr ud53 QI z1 z0 ht27)<|.o (Qe Qao z0)<|.o (Qd (u := (t27).Kind) tok3 z0 rfl)<|.o (QM z0 .k)<|.n) fun _ a w H => ?_
 have H := H.to [10,11,12,13,14] [_,_,_,_,_] [] rfl rfl
 refine wi H h (fun b19 h => ?_) (fun b19 h => ?_)
 ·refine wp_seq_k (fun _ k9 => ?_)
  have ⟨t37,ht37,h⟩ := bs h
  refine sr mx [] H (fun _ => .q 2 rfl<|.o (Qau z0 .k)<|.q 0 rfl<|.g rfl rfl bq0 (fun _ => Qm Qar z6)<|.g rfl rfl bq1 (fun _ => Qe Qas z5)<|.g rfl rfl bq2 (fun hc => Qd (u := (t17.2).Of) tok9 (.cond z0 hc) rfl)<|.g rfl rfl bq3 (fun hc => Qf Qlb (Qe1 (Qaj ht37 hc)) (.cons (.of (.cond z2 hc))<|.cons (.of (.cond z0 hc))<|.nil))<|.g rfl rfl bq4 (fun _ => Qq z11)<|.g rfl rfl bq5 (fun hc => Qau (.cond z1 hc) (.cond z0 hc))<|.o (Q6 z6 (fun hp => (.cond z0 (beqF hp))))<|.n) fun _ a w H => ?_
  have H := H.to [9] [_] [] rfl rfl
  refine wi H h (fun b13 h => ?_) (fun b13 h => ?_)
  ·refine sr mx [] H (fun _ => .o (Qa .k)<|.n) fun _ a w H => ?_
   have H := H.to [0] [_] [] rfl rfl
   refine wp_ret ?_
   obtain rfl := sj h
   exact rt undef [] hpl H (.tmp z0 .nil)
  refine wp_skip (k9 _ _ ?_)
  refine sr mx [] H (fun _ => .o (Qa .k)<|.n) fun _ a w H => ?_
  have H := H.to [0] [_] [] rfl rfl
  refine wp_ret ?_
  obtain rfl := sj h
  exact rt undef [] hpl H (.tmp z0 .nil)
 refine wp_skip (k7 _ _ ?_)
 refine wp_seq_k (fun _ k14 => ?_)
 refine sr mx [] H (fun _ => .q 2 rfl<|.o (QG z0 .k)<|.q 0 rfl<|.g rfl rfl bq0 (fun _ => Qq z5)<|.g rfl rfl bq1 (fun hc => QM (.cond z0 hc) .k)<|.o (Q6 z2 (fun hp => (.cond z0 (beqF hp))))<|.q 0 rfl<|.g rfl rfl bq0 (fun _ => Qq z9)<|.g rfl rfl bq1 (fun hc => QM (.cond z0 hc) .k)<|.o (Q6 z2 (fun hp => (.cond z0 (beqF hp))))<|.q 0 rfl<|.g rfl rfl bq0 (fun _ => Qq z13)<|.g rfl rfl bq1 (fun hc => QM (.cond z0 hc) .k)<|.o (Q6 z2 (fun hp => (.cond z0 (beqF hp))))<|.q 0 rfl<|.g rfl rfl bq0 (fun _ => Qq z17)<|.g rfl rfl bq1 (fun hc => QM (.cond z0 hc) .k)<|.o (Q6 z2 (fun hp => (.cond z0 (beqF hp))))<|.n) fun _ a w H => ?_
 have H := H.to [17] [_] [] rfl rfl
 refine wi H h (fun b18 h => ?_) (fun b18 h => ?_)
 ·refine sr mx [] H (fun _ => .o (Qa .k)<|.n) fun _ a w H => ?_
  have H := H.to [0] [_] [] rfl rfl
  refine wp_ret ?_
  obtain rfl := sj h
  exact rt undef [] hpl H (.tmp z0 .nil)
 refine wp_skip (k14 _ _ ?_)
 refine sr mx [] H (fun _ => .o (Qa .k)<|.n) fun _ a w H => ?_
 have H := H.to [0] [_] [] rfl rfl
 refine wp_ret ?_
 obtain rfl := sj h
 exact rt undef [] hpl H (.tmp z0 .nil)

/- diorama/dioramaref10.leads -/
noncomputable def QgU (x_ : Qh) (kind_ : Int) (field_ : Int) : Option (Int) := (idx (x_).Kinds kind_).bind fun t16 => (idx (t16).Fields field_).bind fun t20 => (QgS x_ kind_ field_).bind fun t25 => (if (((t20).Kind == (0:Int)) && (decide (field_ > (0:Int)))) = true then (some (13:Int)) else ((if ((t20).Kind == (0:Int)) = true then (some ((t20).Kind == (0:Int))) else ((if ((t20).Kind == (2:Int)) = true then (some ((t20).Kind == (2:Int))) else (some ((t20).Kind == (3:Int))))).bind fun (p238 : Bool) => (some p238))).bind fun (p12 : Bool) => (if p12 = true then (some (0:Int)) else (jn (fun (_ : Unit) => (some (0:Int))) fun j131 => (if ((t20).Kind == (1:Int)) = true then (if (decide (t25 < (0:Int))) = true then (some (12:Int)) else (j131 ())) else (jn (fun (_ : Unit) => (j131 ())) fun j186 => (if ((t20).Kind == (4:Int)) = true then (idx (x_).Kinds kind_).bind fun t53 => (Qcu t53 (t20).Of).bind fun t57 => (if ((t20).Of == ([] : Str)) = true then (some (0:Int)) else (if ((decide (t57 < (0:Int))) || (decide (t57 ≥ field_))) = true then (some (12:Int)) else (idx (x_).Kinds kind_).bind fun t71 => (idx (t71).Fields t57).bind fun t75 => (if ((t75).Kind != (4:Int)) = true then (some (12:Int)) else (j186 ())))) else (if ((t20).Kind == (5:Int)) = true then (QF (fun (s202 : Int) => ((if (decide (s202 < ((x_).Lives.length : Int))) = true then (idx (x_).Lives s202).bind fun t91 => (if ((t91).Name == (t20).Of) = true then (some (.inr (.inr (0:Int)))) else (some (.inl (IntKind.i64.wrap (s202 + (1:Int)))))) else (some (.inr (.inl ())))) : Option ((Int) ⊕ ((Unit) ⊕ (Int))))) (0:Int)).bind fun (e203 : (Unit) ⊕ (Int)) => (match e203 with | .inl _ => (some (12:Int)) | .inr p212 => (some p212)) else (if ((t20).Kind == (6:Int)) = true then (Qhy x_ kind_ field_).bind fun t103 => (if (decide (t103.1 < (0:Int))) = true then (some (12:Int)) else (if ((t103.2.length : Int) != (1:Int)) = true then (some (11:Int)) else (j186 ()))) else (Qiu x_ kind_ field_ t25).bind fun t39 => (some t39)))))))))
theorem QoQ {x_ : Qh} {kind_ : Int} {field_ : Int} {r : Int} (h : QgU x_ kind_ field_ = some r) : FnOk Tryz.prog 79 [Qg.ty x_,ti kind_,ti field_] [] (fun _ => []) (fun _ => ti r) := by
 unfold QgU at h
 refine fe Tryz.func79 Tryz.ntmps79 fun M0 M w0 a hpl H => ?_
 replace H : St M w0 111 [(0,Qg.ty x_),(1,ti kind_),(2,ti field_)] [] a w0 := H
 refine sr mx [] H (fun _ => .o (QV (R := Qg) (u := x_) z0)<|.o (Qa .k)<|.n) fun _ a w H => ?_
 have H := H.to [0,3,4] [_,_,_] [] rfl rfl
 have ⟨t16,ht16,h⟩ := bs h
 have ⟨t20,ht20,h⟩ := bs h
 refine sr mx [v1 9 (fun v0 => box (Qb.cs zz0) v0),v1 9 (fun v0 => box (Qb.cs t20) v0)] H (fun _ => .o (Qe Q9 z0)<|.o (Qd (u := (x_).Kinds) QaF z0 rfl)<|.q 3 rfl<|.o (Qr ud23 QZ z1 z0 ht16)<|.o (Qe Qaf z0)<|.o (Qd (u := (t16).Fields) QaK z0 rfl)<|.q 8 rfl<|.o (Qr ud53 QI z1 z0 ht20)<|.o (Qm QI z0)<|.m [] [0] rfl rfl rfl (Q0 (R := Qb) (a := zz0) QI Qcy)<|.e [] [0] [1] rfl rfl rfl rfl (QS (R := Qb) (a := t20) QI z0 z1 (leb rfl))<|.n) fun _ a w H => ?_
 replace H : St _ _ _ [_,_,_,_] [] _ _ := (((H.pick [9,10,11,12]).shareB 0 rfl).add 0 rfl (fun _ _ _ h => h.2)).pick [0,3,4,5]
 have ⟨t25,ht25,h⟩ := bs h
 refine sr mx [] H (fun _ => .o (Qm Qar z1)<|.q 3 rfl<|.q 5 rfl<|.o (Qf QoC (QkV ht25) (.cons (.of z2)<|.cons (.of z1)<|.cons (.of z0)<|.nil))<|.o (Qa z0)<|.n) fun _ a w H => ?_
 have H := H.to [4,5,6,7,8] [_,_,_,_,_] [] rfl rfl
 refine wp_seq_k (fun _ k5 => ?_)
 refine sr mx [] H (fun _ => .o (Qe Qao z1)<|.o (Qd (u := (t20).Kind) tok3 z0 rfl)<|.o (QM z0 .k)<|.q 0 rfl<|.g rfl rfl bq0 (fun _ => Qq z8)<|.g rfl rfl bq1 (fun hc => Qa0 (.cond z0 hc) .k)<|.o (QW z2 (fun hp => (.cond z0 (beqT hp))))<|.n) fun _ a w H => ?_
 have H := H.to [6,7,8,9,10,11] [_,_,_,_,_,_] [] rfl rfl
 refine wi H h (fun b242 h => ?_) (fun b242 h => ?_)
 ·refine sr mx [] H (fun _ => .o (Qa .k)<|.n) fun _ a w H => ?_
  have H := H.to [0] [_] [] rfl rfl
  refine wp_ret ?_
  obtain rfl := sj h
  exact rt undef [] hpl H (.tmp z0 .nil)
 refine wp_skip (k5 _ _ ?_)
 refine wp_seq_k (fun K8 k8 => ?_)
 refine sr mx [] H (fun _ => .o (Qe Qao z2)<|.o (Qd (u := (t20).Kind) tok3 z0 rfl)<|.n) fun _ a w H => ?_
 have H := H.to [1,3,4,5,6,7] [_,_,_,_,_,_] [] rfl rfl
 refine wp_block ?_
 refine wp_seq_k (fun K10 k10 => ?_)
 refine sr mx [] H (fun _ => .o (QM z0 .k)<|.o (Qa z0)<|.n) fun _ a w H => ?_
 have H := H.to [1,2,3,4,5,6,7] [_,_,_,_,_,_,_] [] rfl rfl
 have ⟨p12,hp12,h⟩ := bs h
 have hJp12 : ∀ a w,St M w0 111 [(40,tb p12),(34,ti (t20).Kind),(8,ti t25),(7,tptr (Qb.cs t20)),(3,tptr (Qg.cs x_)),(1,ti kind_),(2,ti field_)] [] a w → K10 a w := by
  intro a w H
  refine k10 _ _ ?_
  refine wi H h (fun b236 h => ?_) (fun b236 h => ?_)
  ·refine sr mx [] H (fun _ => .o (Qa .k)<|.n) fun _ a w H => ?_
   have H := H.to [0] [_] [] rfl rfl
   refine wp_ret ?_
   obtain rfl := sj h
   exact rt undef [] hpl H (.tmp z0 .nil)
  refine sr mx [] H (fun _ => .o (QM z1 .k)<|.o (Qa z0)<|.n) fun _ a w H => ?_
  have H := H.to [1,3,4,5,6,7,8] [_,_,_,_,_,_,_] [] rfl rfl
  obtain ⟨j131,hj131,h⟩ := QmM h
  have hJp20 : ∀ (p20 : Unit) a w,j131 p20 = some r → St M w0 111 [] [] a w → K8 a w := by
   intro p20 a w h H
   rw [hj131] at h
   clear hj131
   refine k8 _ _ ?_
   refine sr mx [] H (fun _ => .o (Qa .k)<|.n) fun _ a w H => ?_
   have H := H.to [0] [_] [] rfl rfl
   refine wp_ret ?_
   obtain rfl := sj h
   exact rt undef [] hpl H (.tmp z0 .nil)
  clear hj131
  refine wi H h (fun b235 h => ?_) (fun b235 h => ?_)
  ·refine sr mx [] H (fun _ => .q 2 rfl<|.o (QG z0 .k)<|.n) fun _ a w H => ?_
   have H := H.to [1] [_] [] rfl rfl
   refine wi H h (fun b135 h => ?_) (fun b135 h => ?_)
   ·refine sr mx [] H (fun _ => .o (Qa .k)<|.n) fun _ a w H => ?_
    have H := H.to [0] [_] [] rfl rfl
    refine wp_ret ?_
    obtain rfl := sj h
    exact rt undef [] hpl H (.tmp z0 .nil)
   refine wp_skip ?_
   exact hJp20 _ _ _ h (H.pick [])
  refine sr mx [] H (fun _ => .o (QM z1 .k)<|.o (Qa z0)<|.n) fun _ a w H => ?_
  have H := H.to [1,3,4,5,6,7,8] [_,_,_,_,_,_,_] [] rfl rfl
  obtain ⟨j186,hj186,h⟩ := QmM h
  have hJp137 : ∀ (p137 : Unit) a w,j186 p137 = some r → St M w0 111 [] [] a w → K8 a w := by
   intro p137 a w h H
   rw [hj186] at h
   clear hj186
   exact hJp20 _ _ _ h (H.pick [])
  clear hj186
  refine wi H h (fun b234 h => ?_) (fun b234 h => ?_)
  ·have ⟨t53,ht53,h⟩ := bs h
   have ⟨t57,ht57,h⟩ := bs h
   refine sr mx [] H (fun _ => .o (Qe Q9 z4)<|.o (Qd (u := (x_).Kinds) QaF z0 rfl)<|.q 7 rfl<|.o (Qr ud23 QZ z1 z0 ht53)<|.o (Qm QZ z0)<|.o (Qe Qas z8)<|.o (Qd (u := (t20).Of) tok9 z0 rfl)<|.o (Qf Qmm (Qfw ht57) (.cons (.of z2)<|.cons (.of z0)<|.nil))<|.o (Qa z0)<|.n) fun _ a w H => ?_
   have H := H.to [8,12,13,14,15] [_,_,_,_,_] [] rfl rfl
   refine wp_seq_k (fun _ k188 => ?_)
   refine sr mx [] H (fun _ => .o (Qe Qas z1)<|.o (Qd (u := (t20).Of) tok9 z0 rfl)<|.o (Qa6 z0 .k)<|.n) fun _ a w H => ?_
   have H := H.to [2,3,5,6,7] [_,_,_,_,_] [] rfl rfl
   refine wi H h (fun b198 h => ?_) (fun b198 h => ?_)
   ·refine sr mx [] H (fun _ => .o (Qa .k)<|.n) fun _ a w H => ?_
    have H := H.to [0] [_] [] rfl rfl
    refine wp_ret ?_
    obtain rfl := sj h
    exact rt undef [] hpl H (.tmp z0 .nil)
   refine wp_skip (k188 _ _ ?_)
   refine wp_seq_k (fun _ k191 => ?_)
   refine sr mx [] H (fun _ => .q 1 rfl<|.o (QG z0 .k)<|.q 0 rfl<|.g rfl rfl bq0 (fun _ => Qq z4)<|.g rfl rfl bq1 (fun _ => Qq z8)<|.g rfl rfl bq2 (fun hc => QaJ (.cond z1 hc) (.cond z0 hc))<|.o (Q6 z3 (fun hp => (.cond z0 (beqF hp))))<|.n) fun _ a w H => ?_
   have H := H.to [6,8,9,10] [_,_,_,_] [] rfl rfl
   refine wi H h (fun b197 h => ?_) (fun b197 h => ?_)
   ·refine sr mx [] H (fun _ => .o (Qa .k)<|.n) fun _ a w H => ?_
    have H := H.to [0] [_] [] rfl rfl
    refine wp_ret ?_
    obtain rfl := sj h
    exact rt undef [] hpl H (.tmp z0 .nil)
   refine wp_skip (k191 _ _ ?_)
   have ⟨t71,ht71,h⟩ := bs h
   have ⟨t75,ht75,h⟩ := bs h
   refine sr mx [] H (fun _ => .o (Qe Q9 z2)<|.o (Qd (u := (x_).Kinds) QaF z0 rfl)<|.q 5 rfl<|.o (Qr ud23 QZ z1 z0 ht71)<|.o (Qe Qaf z0)<|.o (Qd (u := (t71).Fields) QaK z0 rfl)<|.q 7 rfl<|.o (Qr ud53 QI z1 z0 ht75)<|.o (Qe Qao z0)<|.o (Qd (u := (t75).Kind) tok3 z0 rfl)<|.o (Qau z0 .k)<|.n) fun _ a w H => ?_
   have H := H.to [10] [_] [] rfl rfl
   refine wi H h (fun b196 h => ?_) (fun b196 h => ?_)
   ·refine sr mx [] H (fun _ => .o (Qa .k)<|.n) fun _ a w H => ?_
    have H := H.to [0] [_] [] rfl rfl
    refine wp_ret ?_
    obtain rfl := sj h
    exact rt undef [] hpl H (.tmp z0 .nil)
   refine wp_skip ?_
   exact hJp137 _ _ _ h (H.pick [])
  refine sr mx [] H (fun _ => .o (QM z1 .k)<|.o (Qa z0)<|.n) fun _ a w H => ?_
  have H := H.to [1,3,4,5,6,7,8] [_,_,_,_,_,_,_] [] rfl rfl
  refine wi H h (fun b233 h => ?_) (fun b233 h => ?_)
  ·refine wp_seq_k (fun K200 k200 => ?_)
   refine sr mx [] H (fun _ => .o (Qa .k)<|.n) fun _ a w H => ?_
   have H := H.to [0,4,5] [_,_,_] [] rfl rfl
   have ⟨e203,he203,h⟩ := bs h
   have hJp211 : ∀ (p211 : Unit) a w,(.inl p211) = e203 → St M w0 111 [] [] a w → K200 a w := by
    intro p211 a w he H
    subst he
    simp only at h
    refine k200 _ _ ?_
    refine sr mx [] H (fun _ => .o (Qa .k)<|.n) fun _ a w H => ?_
    have H := H.to [0] [_] [] rfl rfl
    refine wp_ret ?_
    obtain rfl := sj h
    exact rt undef [] hpl H (.tmp z0 .nil)
   have hJp212 : ∀ (p212 : Int) a w,(.inr p212) = e203 → St M w0 111 [(6,ti p212)] [] a w → Ret Tryz.prog Tryz.f79 M0 [] w0 (fun _ => []) (fun _ => ti r) .ret a w := by
    intro p212 a w he H
    subst he
    simp only at h
    obtain rfl := sj h
    exact rt undef [] hpl H (.tmp z0 .nil)
   refine wp_block ?_
   refine QR _ (fun (s202 : Int) a w => St M w0 111 [(10,ti s202),(7,tptr (Qb.cs t20)),(3,tptr (Qg.cs x_))] [] a w) _ _ he203 (H.pick [0,1,2]) ?_
   clear h
   intro s202 o a w K214 hI h ho k214
   have H := hI
   clear hI
   refine wp_seq_k (fun _ k215 => ?_)
   refine sr mx [] H (fun _ => .q 0 rfl<|.o (Qe Qbc z3)<|.o (Qd (u := (x_).Lives) QeH z0 rfl)<|.o (QE ud24 z0)<|.o (QG z3 z0)<|.n) fun _ a w H => ?_
   have H := H.to [4,5,6,7] [_,_,_,_] [] rfl rfl
   refine wi H h (fun b221 h => ?_) (fun b221 h => ?_)
   ·refine wp_skip (k215 _ _ ?_)
    refine wp_seq_k (fun _ k217 => ?_)
    refine wp_block ?_
    have ⟨t91,ht91,h⟩ := bs h
    refine sr mx [] H (fun _ => .o (Qe Qbc z3)<|.o (Qd (u := (x_).Lives) QeH z0 rfl)<|.q 3 rfl<|.o (Qr ud24 Qby z1 z0 ht91)<|.o (Qe Qgw z0)<|.o (Qd (u := (t91).Name) tok9 z0 rfl)<|.o (Qe Qas z8)<|.o (Qd (u := (t20).Of) tok9 z0 rfl)<|.o (Qa6 z2 z0)<|.n) fun _ a w H => ?_
    have H := H.to [8,10,11,12] [_,_,_,_] [] rfl rfl
    refine wi H h (fun b220 h => ?_) (fun b220 h => ?_)
    ·refine sr mx [] H (fun _ => .o (Qa .k)<|.n) fun _ a w H => ?_
     have H := H.to [0] [_] [] rfl rfl
     refine wp_ret ?_
     exact hJp212 _ _ _ (ho _ (sj h).symm) (H.pick [0])
    refine wp_skip (k217 _ _ ?_)
    refine wr mx [] H (fun _ => .q 1 rfl<|.o (QQ z0 .k)<|.o (Qa z0)<|.n) fun _ a w H => ?_
    have H := H.to [2,4,5] [_,_,_] [] rfl rfl
    exact k214 _ _ _ (sj h).symm (H.pick [0,1,2])
   refine wp_exit ?_
   exact hJp211 _ _ _ (ho _ (sj h).symm) (H.pick [])
  refine sr mx [] H (fun _ => .o (QM z1 .k)<|.o (Qa z0)<|.n) fun _ a w H => ?_
  have H := H.to [1,4,6,7,8] [_,_,_,_,_] [] rfl rfl
  refine wi H h (fun b232 h => ?_) (fun b232 h => ?_)
  ·have ⟨t103,ht103,h⟩ := bs h
   refine sr mx [] H (fun _ => .o (Qm Qar z2)<|.q 4 rfl<|.q 6 rfl<|.o (Qf Qt2 (Qpy ht103) (.cons (.of z2)<|.cons (.of z1)<|.cons (.of z0)<|.nil))<|.q 0 rfl<|.o (QU z0 rfl)<|.o (QU z1 rfl)<|.o (Qa z1)<|.o (Qa z1)<|.n) fun _ a w H => ?_
   have H := H.to [7,8] [_,_] [] rfl rfl
   refine wp_seq_k (fun _ k224 => ?_)
   refine sr mx [] H (fun _ => .q 0 rfl<|.o (QG z0 .k)<|.n) fun _ a w H => ?_
   have H := H.to [1,3] [_,_] [] rfl rfl
   refine wi H h (fun b230 h => ?_) (fun b230 h => ?_)
   ·refine sr mx [] H (fun _ => .o (Qa .k)<|.n) fun _ a w H => ?_
    have H := H.to [0] [_] [] rfl rfl
    refine wp_ret ?_
    obtain rfl := sj h
    exact rt undef [] hpl H (.tmp z0 .nil)
   refine wp_skip (k224 _ _ ?_)
   refine sr mx [] H (fun _ => .q 1 rfl<|.o (QE ud22 z0)<|.o (Qau z0 .k)<|.n) fun _ a w H => ?_
   have H := H.to [2] [_] [] rfl rfl
   refine wi H h (fun b229 h => ?_) (fun b229 h => ?_)
   ·refine sr mx [] H (fun _ => .o (Qa .k)<|.n) fun _ a w H => ?_
    have H := H.to [0] [_] [] rfl rfl
    refine wp_ret ?_
    obtain rfl := sj h
    exact rt undef [] hpl H (.tmp z0 .nil)
   refine wp_skip ?_
   exact hJp137 _ _ _ h (H.pick [])
  have ⟨t39,ht39,h⟩ := bs h
  refine sr mx [] H (fun _ => .o (Qm Qar z2)<|.q 4 rfl<|.q 6 rfl<|.q 4 rfl<|.o (Qf Qt3 (QoP ht39) (.cons (.of z3)<|.cons (.of z2)<|.cons (.of z1)<|.cons (.of z0)<|.nil))<|.o (Qa z0)<|.n) fun _ a w H => ?_
  have H := H.to [5] [_] [] rfl rfl
  refine wp_ret ?_
  obtain rfl := sj h
  exact rt undef [] hpl H (.tmp z0 .nil)
 replace h := hp12
 clear hp12
 refine wi H h (fun b241 h => ?_) (fun b241 h => ?_)
 ·refine wp_skip ?_
  obtain rfl := sj h
  exact hJp12 _ _ (H.pick [0,1,2,3,4,5,6])
 refine sr mx [] H (fun _ => .o (QM z1 .k)<|.o (Qa z0)<|.n) fun _ a w H => ?_
 have H := H.to [1,2,3,4,5,6,7] [_,_,_,_,_,_,_] [] rfl rfl
 have ⟨p238,hp238,h⟩ := bs h
 have hJp238 : ∀ a w,St M w0 111 [(40,tb p238),(34,ti (t20).Kind),(8,ti t25),(7,tptr (Qb.cs t20)),(3,tptr (Qg.cs x_)),(1,ti kind_),(2,ti field_)] [] a w → K10 a w := by
  intro a w H
  obtain rfl := sj h
  exact hJp12 _ _ (H.pick [0,1,2,3,4,5,6])
 replace h := hp238
 clear hp238
 refine wi H h (fun b240 h => ?_) (fun b240 h => ?_)
 ·refine wp_skip ?_
  obtain rfl := sj h
  exact hJp238 _ _ (H.pick [0,1,2,3,4,5,6])
 refine wr mx [] H (fun _ => .o (QM z1 .k)<|.o (Qa z0)<|.n) fun _ a w H => ?_
 have H := H.to [1,2,3,4,5,6,7] [_,_,_,_,_,_,_] [] rfl rfl
 obtain rfl := sj h
 exact hJp238 _ _ (H.pick [0,1,2,3,4,5,6])

/- diorama/dioramaref10.rules -/
noncomputable def QgV (x_ : Qh) (i_ : Int) : Option (Int) := (idx (x_).Rules i_).bind fun t16 => (QF (fun (s6 : Int) => ((if (decide (s6 < i_)) = true then (idx (x_).Rules s6).bind fun t26 => (if ((t26).Name == (t16).Name) = true then (some (.inr (.inr (7:Int)))) else (some (.inl (IntKind.i64.wrap (s6 + (1:Int)))))) else (some (.inr (.inl ())))) : Option ((Int) ⊕ ((Unit) ⊕ (Int))))) (0:Int)).bind fun (e7 : (Unit) ⊕ (Int)) => (match e7 with | .inl _ => (Qct x_ (t16).Kind).bind fun t35 => (if (decide (t35 < (0:Int))) = true then (some (12:Int)) else (QF (fun (s32 : Int × Bool) => ((if (decide (s32.1 < (2:Int))) = true then (jn (fun (p97 : Bool) => (some (.inl ((IntKind.i64.wrap (s32.1 + (1:Int))),p97)))) fun j107 => (idx [(t16).A,(t16).B] s32.1).bind fun t49 => (if (t49 == ([] : Str)) = true then (j107 s32.2) else (idx (x_).Kinds t35).bind fun t55 => (idx [(t16).A,(t16).B] s32.1).bind fun t59 => (Qcu t55 t59).bind fun t61 => (if (decide (t61 < (0:Int))) = true then (some (.inr (.inr (12:Int)))) else (idx (x_).Kinds t35).bind fun t67 => (idx (t67).Fields t61).bind fun t71 => (j107 (s32.2 || (((t71).Kind != (2:Int)) && ((t71).Kind != (4:Int)))))))) else (some (.inr (.inl s32.2)))) : Option ((Int × Bool) ⊕ ((Bool) ⊕ (Int))))) ((0:Int),false)).bind fun (e33 : (Bool) ⊕ (Int)) => (match e33 with | .inl p82 => (if p82 = true then (some (13:Int)) else (if ((t16).A == (t16).B) = true then (some (1:Int)) else (some (0:Int)))) | .inr p83 => (some p83))) | .inr p23 => (some p23))
theorem QoR {x_ : Qh} {i_ : Int} {r : Int} (h : QgV x_ i_ = some r) : FnOk Tryz.prog 80 [Qg.ty x_,ti i_] [] (fun _ => []) (fun _ => ti r) := by
 unfold QgV at h
 refine fe Tryz.func80 Tryz.ntmps80 fun M0 M w0 a hpl H => ?_
 replace H : St M w0 89 [(0,Qg.ty x_),(1,ti i_)] [] a w0 := H
 refine sr mx [] H (fun _ => .o (QV (R := Qg) (u := x_) z0)<|.o (Qa .k)<|.n) fun _ a w H => ?_
 have H := H.to [0,3] [_,_] [] rfl rfl
 have ⟨t16,ht16,h⟩ := bs h
 refine sr mx [v1 5 (fun v0 => box (Qt.cs zz3) v0),v1 5 (fun v0 => box (Qt.cs t16) v0)] H (fun _ => .o (Qe QbH z0)<|.o (Qd (u := (x_).Rules) Qfp z0 rfl)<|.q 3 rfl<|.o (Qr ud25 QaU z1 z0 ht16)<|.o (Qm QaU z0)<|.m [] [0] rfl rfl rfl (Q0 (R := Qt) (a := zz3) QaU QmS)<|.e [] [0] [1] rfl rfl rfl rfl (QS (R := Qt) (a := t16) QaU z0 z1 (leb rfl))<|.n) fun _ a w H => ?_
 replace H : St _ _ _ [_,_,_] [] _ _ := (((H.pick [5,6,7]).shareB 0 rfl).add 0 rfl (fun _ _ _ h => h.2)).pick [0,3,4]
 refine wp_seq_k (fun K4 k4 => ?_)
 refine sr mx [] H (fun _ => .o (Qa .k)<|.n) fun _ a w H => ?_
 have H := H.to [0,1,2,3] [_,_,_,_] [] rfl rfl
 have ⟨e7,he7,h⟩ := bs h
 have hJp22 : ∀ (p22 : Unit) a w,(.inl p22) = e7 → St M w0 89 [(5,tptr (Qt.cs t16)),(2,tptr (Qg.cs x_))] [] a w → K4 a w := by
  intro p22 a w he H
  subst he
  simp only at h
  refine k4 _ _ ?_
  have ⟨t35,ht35,h⟩ := bs h
  refine sr mx [] H (fun _ => .o (Qm Qar z1)<|.o (Qe Qkc z1)<|.o (Qd (u := (t16).Kind) tok9 z0 rfl)<|.o (Qf Qlb (Qe1 ht35) (.cons (.of z2)<|.cons (.of z0)<|.nil))<|.o (Qa z0)<|.n) fun _ a w H => ?_
  have H := H.to [4,5,6] [_,_,_] [] rfl rfl
  refine wp_seq_k (fun _ k25 => ?_)
  refine sr mx [] H (fun _ => .q 0 rfl<|.o (QG z0 .k)<|.n) fun _ a w H => ?_
  have H := H.to [1,2,3,4] [_,_,_,_] [] rfl rfl
  refine wi H h (fun b118 h => ?_) (fun b118 h => ?_)
  ·refine sr mx [] H (fun _ => .o (Qa .k)<|.n) fun _ a w H => ?_
   have H := H.to [0] [_] [] rfl rfl
   refine wp_ret ?_
   obtain rfl := sj h
   exact rt undef [] hpl H (.tmp z0 .nil)
  refine wp_skip (k25 _ _ ?_)
  refine sr mx [] H (fun _ => .o (Qe QeW z2)<|.o (Qd (u := (t16).A) tok9 z0 rfl)<|.o (Qe QeX z4)<|.o (Qd (u := (t16).B) tok9 z0 rfl)<|.o (Qy (R := rS) (us := [(t16).A,(t16).B]) ud32 tok9 (.cons z2<|.cons z0<|.nil _) rfl (leb rfl))<|.o (Qa z0)<|.n) fun _ a w H => ?_
  have H := H.to [5,7,8,9] [_,_,_,_] [] rfl rfl
  refine sr mx [] H (fun _ => .o (Qa .k)<|.n) fun _ a w H => ?_
  have H := H.to [0,1,2,3,4] [_,_,_,_,_] [] rfl rfl
  refine wp_seq_k (fun K30 k30 => ?_)
  refine sr mx [] H (fun _ => .o (Qa .k)<|.n) fun _ a w H => ?_
  have H := H.to [0,1,2,3,4,5] [_,_,_,_,_,_] [] rfl rfl
  have ⟨e33,he33,h⟩ := bs h
  have hJp82 : ∀ (p82 : Bool) a w,(.inl p82) = e33 → St M w0 89 [(9,tb p82),(5,tptr (Qt.cs t16))] [] a w → K30 a w := by
   intro p82 a w he H
   subst he
   simp only at h
   refine k30 _ _ ?_
   refine wp_seq_k (fun _ k84 => ?_)
   refine sr mx [] H (fun _ => .q 0 rfl<|.n) fun _ a w H => ?_
   have H := H.to [0,2] [_,_] [] rfl rfl
   refine wi H h (fun b92 h => ?_) (fun b92 h => ?_)
   ·refine sr mx [] H (fun _ => .o (Qa .k)<|.n) fun _ a w H => ?_
    have H := H.to [0] [_] [] rfl rfl
    refine wp_ret ?_
    obtain rfl := sj h
    exact rt undef [] hpl H (.tmp z0 .nil)
   refine wp_skip (k84 _ _ ?_)
   refine wp_seq_k (fun _ k87 => ?_)
   refine sr mx [] H (fun _ => .o (Qe QeW z1)<|.o (Qd (u := (t16).A) tok9 z0 rfl)<|.o (Qe QeX z3)<|.o (Qd (u := (t16).B) tok9 z0 rfl)<|.o (Qa6 z2 z0)<|.n) fun _ a w H => ?_
   have H := H.to [4] [_] [] rfl rfl
   refine wi H h (fun b91 h => ?_) (fun b91 h => ?_)
   ·refine sr mx [] H (fun _ => .o (Qa .k)<|.n) fun _ a w H => ?_
    have H := H.to [0] [_] [] rfl rfl
    refine wp_ret ?_
    obtain rfl := sj h
    exact rt undef [] hpl H (.tmp z0 .nil)
   refine wp_skip (k87 _ _ ?_)
   refine sr mx [] H (fun _ => .o (Qa .k)<|.n) fun _ a w H => ?_
   have H := H.to [0] [_] [] rfl rfl
   refine wp_ret ?_
   obtain rfl := sj h
   exact rt undef [] hpl H (.tmp z0 .nil)
  have hJp83 : ∀ (p83 : Int) a w,(.inr p83) = e33 → St M w0 89 [(4,ti p83)] [] a w → Ret Tryz.prog Tryz.f80 M0 [] w0 (fun _ => []) (fun _ => ti r) .ret a w := by
   intro p83 a w he H
   subst he
   simp only at h
   obtain rfl := sj h
   exact rt undef [] hpl H (.tmp z0 .nil)
  refine wp_block ?_
  refine QR _ (fun (s32 : Int × Bool) a w => St M w0 89 [(10,ti s32.1),(9,tb s32.2),(8,tsl rS [(t16).A,(t16).B]),(7,ti t35),(5,tptr (Qt.cs t16)),(2,tptr (Qg.cs x_))] [] a w) _ _ he33 (H.pick [0,1,2,3,4,5]) ?_
  clear h
  intro s32 o a w K93 hI h ho k93
  have H := hI
  clear hI
  refine wp_seq_k (fun _ k94 => ?_)
  refine sr mx [] H (fun _ => .q 0 rfl<|.o (QG z0 .k)<|.n) fun _ a w H => ?_
  have H := H.to [1,2,3,4,5,6,7] [_,_,_,_,_,_,_] [] rfl rfl
  refine wi H h (fun b117 h => ?_) (fun b117 h => ?_)
  ·refine wp_skip (k94 _ _ ?_)
   refine wp_seq_k (fun K96 k96 => ?_)
   obtain ⟨j107,hj107,h⟩ := QmM h
   have hJp97 : ∀ (p97 : Bool) a w,j107 p97 = some o → St M w0 89 [(10,ti s32.1),(9,tb p97),(8,tsl rS [(t16).A,(t16).B]),(7,ti t35),(5,tptr (Qt.cs t16)),(2,tptr (Qg.cs x_))] [] a w → K96 a w := by
    intro p97 a w h H
    rw [hj107] at h
    clear hj107
    refine k96 _ _ ?_
    refine wr mx [] H (fun _ => .q 0 rfl<|.o (QQ z0 .k)<|.o (Qa z0)<|.n) fun _ a w H => ?_
    have H := H.to [2,3,4,5,6,7] [_,_,_,_,_,_] [] rfl rfl
    exact k93 _ _ _ (sj h).symm (H.pick [0,1,2,3,4,5])
   clear hj107
   refine wp_block ?_
   refine wp_seq_k (fun _ k108 => ?_)
   have ⟨t49,ht49,h⟩ := bs h
   refine sr mx [] H (fun _ => .q 3 rfl<|.q 2 rfl<|.o (Qr ud32 tok9 z1 z0 ht49)<|.o (Qm tok9 z0)<|.o (Qa6 z0 .k)<|.n) fun _ a w H => ?_
   have H := H.to [4,6,7,8,9,10,11] [_,_,_,_,_,_,_] [] rfl rfl
   refine wi H h (fun b116 h => ?_) (fun b116 h => ?_)
   ·refine wp_exit ?_
    exact hJp97 _ _ _ h (H.pick [1,2,3,4,5,6])
   refine wp_skip (k108 _ _ ?_)
   have ⟨t55,ht55,h⟩ := bs h
   have ⟨t59,ht59,h⟩ := bs h
   have ⟨t61,ht61,h⟩ := bs h
   refine sr mx [] H (fun _ => .o (Qe Q9 z6)<|.o (Qd (u := (x_).Kinds) QaF z0 rfl)<|.q 6 rfl<|.o (Qr ud23 QZ z1 z0 ht55)<|.o (Qm QZ z0)<|.q 8 rfl<|.q 7 rfl<|.o (Qr ud32 tok9 z1 z0 ht59)<|.o (Qm tok9 z0)<|.o (Qf Qmm (Qfw ht61) (.cons (.of z4)<|.cons (.of z0)<|.nil))<|.o (Qa z0)<|.n) fun _ a w H => ?_
   have H := H.to [10,12,13,14,15,16,17] [_,_,_,_,_,_,_] [] rfl rfl
   refine wp_seq_k (fun _ k111 => ?_)
   refine sr mx [] H (fun _ => .q 0 rfl<|.o (QG z0 .k)<|.n) fun _ a w H => ?_
   have H := H.to [1,2,3,4,5,6,7,8] [_,_,_,_,_,_,_,_] [] rfl rfl
   refine wi H h (fun b115 h => ?_) (fun b115 h => ?_)
   ·refine sr mx [] H (fun _ => .o (Qa .k)<|.n) fun _ a w H => ?_
    have H := H.to [0] [_] [] rfl rfl
    refine wp_ret ?_
    exact hJp83 _ _ _ (ho _ (sj h).symm) (H.pick [0])
   refine wp_skip (k111 _ _ ?_)
   have ⟨t67,ht67,h⟩ := bs h
   have ⟨t71,ht71,h⟩ := bs h
   refine sr mx [] H (fun _ => .o (Qe Q9 z7)<|.o (Qd (u := (x_).Kinds) QaF z0 rfl)<|.q 7 rfl<|.o (Qr ud23 QZ z1 z0 ht67)<|.o (Qe Qaf z0)<|.o (Qd (u := (t67).Fields) QaK z0 rfl)<|.q 7 rfl<|.o (Qr ud53 QI z1 z0 ht71)<|.o (Qe Qao z0)<|.o (Qd (u := (t71).Kind) tok3 z0 rfl)<|.o (Qa z0)<|.n) fun _ a w H => ?_
   have H := H.to [10,13,14,15,16,17,18] [_,_,_,_,_,_,_] [] rfl rfl
   refine wr mx [] H (fun _ => .q 2 rfl<|.q 0 rfl<|.g rfl rfl bq0 (fun _ => Qq z2)<|.g rfl rfl bq1 (fun hc => Qau (.cond z0 hc) .k)<|.g rfl rfl bq2 (fun hc => Qq (.cond z0 hc))<|.g rfl rfl (.c 0 rfl) (fun _ => Qq z5)<|.g rfl rfl (.c 1 rfl) (fun hc => Qau (.cond z0 hc) .k)<|.g rfl rfl bq5 (fun hc => QW (.cond z2 hc) (fun hp => (.cond z0 (Qc8 hc (beqT hp)))))<|.o (Q6 z6 (fun hp => (.cond z0 (beqF hp))))<|.o (Qa z0)<|.n) fun _ a w H => ?_
   have H := H.to [9,11,12,13,14,15] [_,_,_,_,_,_] [] rfl rfl
   exact hJp97 _ _ _ h (H.pick [1,0,2,3,4,5])
  refine wp_exit ?_
  exact hJp82 _ _ _ (ho _ (sj h).symm) (H.pick [2,5])
 have hJp23 : ∀ (p23 : Int) a w,(.inr p23) = e7 → St M w0 89 [(4,ti p23)] [] a w → Ret Tryz.prog Tryz.f80 M0 [] w0 (fun _ => []) (fun _ => ti r) .ret a w := by
  intro p23 a w he H
  subst he
  simp only at h
  obtain rfl := sj h
  exact rt undef [] hpl H (.tmp z0 .nil)
 refine wp_block ?_
 refine QR _ (fun (s6 : Int) a w => St M w0 89 [(6,ti s6),(5,tptr (Qt.cs t16)),(2,tptr (Qg.cs x_)),(1,ti i_)] [] a w) _ _ he7 (H.pick [0,1,2,3]) ?_
 clear h
 intro s6 o a w K119 hI h ho k119
 have H := hI
 clear hI
 refine wp_seq_k (fun _ k120 => ?_)
 refine sr mx [] H (fun _ => .q 0 rfl<|.q 4 rfl<|.o (QG z1 z0)<|.n) fun _ a w H => ?_
 have H := H.to [2,3,4,5,6] [_,_,_,_,_] [] rfl rfl
 refine wi H h (fun b126 h => ?_) (fun b126 h => ?_)
 ·refine wp_skip (k120 _ _ ?_)
  refine wp_seq_k (fun _ k122 => ?_)
  refine wp_block ?_
  have ⟨t26,ht26,h⟩ := bs h
  refine sr mx [] H (fun _ => .o (Qe QbH z3)<|.o (Qd (u := (x_).Rules) Qfp z0 rfl)<|.q 3 rfl<|.o (Qr ud25 QaU z1 z0 ht26)<|.o (Qe Qh1 z0)<|.o (Qd (u := (t26).Name) tok9 z0 rfl)<|.o (Qe Qh1 z8)<|.o (Qd (u := (t16).Name) tok9 z0 rfl)<|.o (Qa6 z2 z0)<|.n) fun _ a w H => ?_
  have H := H.to [8,10,11,12,13] [_,_,_,_,_] [] rfl rfl
  refine wi H h (fun b125 h => ?_) (fun b125 h => ?_)
  ·refine sr mx [] H (fun _ => .o (Qa .k)<|.n) fun _ a w H => ?_
   have H := H.to [0] [_] [] rfl rfl
   refine wp_ret ?_
   exact hJp23 _ _ _ (ho _ (sj h).symm) (H.pick [0])
  refine wp_skip (k122 _ _ ?_)
  refine wr mx [] H (fun _ => .q 1 rfl<|.o (QQ z0 .k)<|.o (Qa z0)<|.n) fun _ a w H => ?_
  have H := H.to [2,4,5,6] [_,_,_,_] [] rfl rfl
  exact k119 _ _ _ (sj h).symm (H.pick [0,1,2,3])
 refine wp_exit ?_
 exact hJp22 _ _ _ (ho _ (sj h).symm) (H.pick [2,3])

/- diorama/dioramaref10.Check -/
noncomputable def QgW (x_ : Qh) : Option ((List QO)) := (QgQ x_).bind fun t12 => (if (t12 != (0:Int)) = true then (Qb6 ([] : List QO) (-1:Int) (-1:Int) (-1:Int) t12).bind fun t16 => (some t16) else (QF (fun (s12 : Int × List QO) => ((if (decide (s12.1 < ((x_).Lives.length : Int))) = true then (QF (fun (s333 : Int) => ((if (decide (s333 < s12.1)) = true then (idx (x_).Lives s333).bind fun t32 => (idx (x_).Lives s12.1).bind fun t38 => (if ((t32).Name == (t38).Name) = true then (Qb6 s12.2 (-1:Int) s12.1 (-1:Int) (7:Int)).bind fun t44 => (some (.inr t44)) else (some (.inl (IntKind.i64.wrap (s333 + (1:Int)))))) else (some (.inr s12.2))) : Option ((Int) ⊕ ((List QO))))) (0:Int)).bind fun (p343 : (List QO)) => (some (.inl ((IntKind.i64.wrap (s12.1 + (1:Int))),p343))) else (some (.inr s12.2))) : Option ((Int × List QO) ⊕ ((List QO))))) ((0:Int),([] : List QO))).bind fun (p75 : (List QO)) => (QF (fun (s79 : Int × List QO) => ((if (decide (s79.1 < ((x_).Kinds.length : Int))) = true then (idx (x_).Kinds s79.1).bind fun t55 => (idx (x_).Kinds s79.1).bind fun t62 => (Qct x_ (t62).Name).bind fun t65 => ((if (decide (t65 < s79.1)) = true then (Qb6 s79.2 s79.1 (-1:Int) (-1:Int) (7:Int)).bind fun t70 => (some t70) else (QgR (t55).Fields).bind fun t72 => ((if (!t72) = true then (Qb6 s79.2 s79.1 (-1:Int) (-1:Int) (11:Int)).bind fun t76 => (some t76) else (some s79.2))).bind fun (p320 : List QO) => (some p320))).bind fun (p261 : List QO) => (QF (fun (s273 : Int × List QO) => ((if (decide (s273.1 < ((t55).Fields.length : Int))) = true then (idx (x_).Kinds s79.1).bind fun t86 => (idx (t55).Fields s273.1).bind fun t90 => (Qcu t86 (t90).Name).bind fun t93 => ((if (decide (t93 < s273.1)) = true then (Qb6 s273.2 s79.1 s273.1 (-1:Int) (7:Int)).bind fun t99 => (some t99) else (QgU x_ s79.1 s273.1).bind fun t106 => (Qb6 s273.2 s79.1 s273.1 (-1:Int) t106).bind fun t107 => (some t107))).bind fun (p309 : List QO) => (some (.inl ((IntKind.i64.wrap (s273.1 + (1:Int))),p309))) else (some (.inr s273.2))) : Option ((Int × List QO) ⊕ ((List QO))))) ((0:Int),p261)).bind fun (p302 : (List QO)) => (some (.inl ((IntKind.i64.wrap (s79.1 + (1:Int))),p302))) else (some (.inr s79.2))) : Option ((Int × List QO) ⊕ ((List QO))))) ((0:Int),p75)).bind fun (p228 : (List QO)) => (QF (fun (s232 : Int × List QO) => ((if (decide (s232.1 < ((x_).Rules.length : Int))) = true then (QgV x_ s232.1).bind fun t119 => (Qb6 s232.2 (-1:Int) (-1:Int) s232.1 t119).bind fun t120 => (some (.inl ((IntKind.i64.wrap (s232.1 + (1:Int))),t120))) else (some (.inr s232.2))) : Option ((Int × List QO) ⊕ ((List QO))))) ((0:Int),p228)).bind fun (p245 : (List QO)) => (some p245))
theorem QoS {x_ : Qh} {r : (List QO)} (h : QgW x_ = some r) : FnOk Tryz.prog 39 [Qg.ty x_] [] (fun _ => []) (fun _ => tsl Q3 r) := by
 unfold QgW at h
 refine fe Tryz.func39 Tryz.ntmps39 fun M0 M w0 a hpl H => ?_
 replace H : St M w0 122 [(0,Qg.ty x_)] [] a w0 := H
 refine sr mx [] H (fun _ => .o (QV (R := Qg) (u := x_) z0)<|.o (Qa (.nilsl (R := Q3)))<|.n) fun _ a w H => ?_
 have H := H.to [0] [_] [] rfl rfl
 have ⟨t12,ht12,h⟩ := bs h
 refine sr mx [] H (fun _ => .o (Qm Qar z0)<|.o (Qf call75 (QoM ht12) (.cons (.of z0)<|.nil))<|.o (Qa z0)<|.n) fun _ a w H => ?_
 have H := H.to [2,3] [_,_] [] rfl rfl
 refine wp_seq_k (fun _ k3 => ?_)
 refine sr mx [] H (fun _ => .q 0 rfl<|.o (Qau z0 .k)<|.n) fun _ a w H => ?_
 have H := H.to [1,2,3] [_,_,_] [] rfl rfl
 refine wi H h (fun b355 h => ?_) (fun b355 h => ?_)
 ·refine wp_seq_k (fun _ k5 => ?_)
  replace H : St _ _ _ [_,_,_] [_] _ _ := H.nil (Q3) 94
  have ⟨t16,ht16,h⟩ := bs h
  refine wr mx [v1 1 (fun v0 => own Q3 94 t16 v0)] H (fun _ => .q 1 rfl<|.e [] [0] [1] rfl rfl rfl rfl (Qf Qkm (Qev ht16) (.cons (.of .k)<|.cons (.of .k)<|.cons (.of .k)<|.cons (.of .k)<|.cons (.of z0)<|.nil))<|.ud (f := fun v => tv v) 1 rfl [] rfl rfl (Qa z0)<|.n) fun _ a w H => ?_
  have H := H.to [1,2] [_,_] [_] rfl rfl
  refine k5 _ _ ?_
  refine wp_ret ?_
  replace H : St _ _ _ [_] [] _ _ := (H.shareO 1 rfl).pick [0]
  obtain rfl := sj h
  exact rt undef [] hpl H (.tmp z0 .nil)
 refine wp_skip (k3 _ _ ?_)
 refine sr mx [] H (fun _ => .o (Qa .k)<|.n) fun _ a w H => ?_
 replace H : St _ _ _ [_,_] [_] _ _ := (H.pick [0,3]).nil (Q3) 94
 refine wp_seq_k (fun K10 k10 => ?_)
 refine sr mx [] H (fun _ => .o (Qa .k)<|.n) fun _ a w H => ?_
 have H := H.to [0,1,2] [_,_,_] [_] rfl rfl
 have ⟨e13,he13,h⟩ := bs h
 have hJp75 : ∀ (p75 : List QO) (v76 : Value) a w,p75 = e13 → St M w0 122 [(4,tv v76),(1,tptr (Qg.cs x_))] [own Q3 94 p75 v76] a w → K10 a w := by
  intro p75 v76 a w he H
  subst he
  refine k10 _ _ ?_
  refine wp_seq_k (fun K77 k77 => ?_)
  refine sr mx [] H (fun _ => .o (Qa .k)<|.n) fun _ a w H => ?_
  have H := H.to [0,1,2] [_,_,_] [_] rfl rfl
  have ⟨e80,he80,h⟩ := bs h
  have hJp228 : ∀ (p228 : List QO) (v229 : Value) a w,p228 = e80 → St M w0 122 [(4,tv v229),(1,tptr (Qg.cs x_))] [own Q3 94 p228 v229] a w → K77 a w := by
   intro p228 v229 a w he H
   subst he
   refine k77 _ _ ?_
   refine wp_seq_k (fun K230 k230 => ?_)
   refine sr mx [] H (fun _ => .o (Qa .k)<|.n) fun _ a w H => ?_
   have H := H.to [0,1,2] [_,_,_] [_] rfl rfl
   have ⟨e233,he233,h⟩ := bs h
   have hJp245 : ∀ (p245 : List QO) (v246 : Value) a w,p245 = e233 → St M w0 122 [(4,tv v246)] [own Q3 94 p245 v246] a w → K230 a w := by
    intro p245 v246 a w he H
    subst he
    refine k230 _ _ ?_
    refine sr mx [] H (fun _ => .q 0 rfl<|.o (Qa z0)<|.n) fun _ a w H => ?_
    have H := H.to [0,1,2] [_,_,_] [_] rfl rfl
    refine wp_ret ?_
    replace H : St _ _ _ [_] [] _ _ := (H.shareO 1 rfl).pick [0]
    obtain rfl := sj h
    exact rt undef [] hpl H (.tmp z0 .nil)
   refine wp_block ?_
   refine QR _ (fun (s232 : Int × List QO) a w => ∃ v239 : Value,St M w0 122 [(10,ti s232.1),(4,tv v239),(1,tptr (Qg.cs x_))] [own Q3 94 s232.2 v239] a w) _ _ he233 ⟨v229,H.pick [0,1,2]⟩ ?_
   clear h
   intro s232 o a w K248 hI h ho k248
   obtain ⟨v239,H⟩ := hI
   refine wp_seq_k (fun _ k249 => ?_)
   refine sr mx [] H (fun _ => .q 0 rfl<|.o (Qe QbH z3)<|.o (Qd (u := (x_).Rules) Qfp z0 rfl)<|.o (QE ud25 z0)<|.o (QG z3 z0)<|.n) fun _ a w H => ?_
   have H := H.to [4,5,6,7] [_,_,_,_] [_] rfl rfl
   refine wi H h (fun b253 h => ?_) (fun b253 h => ?_)
   ·refine wp_skip (k249 _ _ ?_)
    refine wp_seq_k (fun _ k251 => ?_)
    refine wp_block ?_
    have ⟨t119,ht119,h⟩ := bs h
    have ⟨t120,ht120,h⟩ := bs h
    refine wr mx [v1 5 (fun v0 => own Q3 94 t120 v0)] H (fun _ => .q 2 rfl<|.q 2 rfl<|.o (Qm Qar z5)<|.q 4 rfl<|.o (Qf call80 (QoR ht119) (.cons (.of z1)<|.cons (.of z0)<|.nil))<|.e [] [0] [1] rfl rfl rfl rfl (Qf Qkm (Qev ht120) (.cons (.of z4)<|.cons (.of .k)<|.cons (.of .k)<|.cons (.of z3)<|.cons (.of z0)<|.nil))<|.ud (f := fun v => tv v) 5 rfl [] rfl rfl (Qa z0)<|.n) fun n30 a w H => ?_
    have H := H.to [5,6,8,9] [_,_,_,_] [_] rfl rfl
    refine k251 _ _ ?_
    refine wr mx [] H (fun _ => .q 2 rfl<|.o (QQ z0 .k)<|.o (Qa z0)<|.n) fun _ a w H => ?_
    have H := H.to [2,3,4,5] [_,_,_,_] [_] rfl rfl
    exact k248 _ _ _ (sj h).symm ⟨(n30 5),H.pick [0,2,3]⟩
   refine wp_exit ?_
   exact hJp245 _ v239 _ _ (ho _ (sj h).symm) (H.pick [2])
  refine wp_block ?_
  refine QR _ (fun (s79 : Int × List QO) a w => ∃ v154 : Value,St M w0 122 [(7,ti s79.1),(4,tv v154),(1,tptr (Qg.cs x_))] [own Q3 94 s79.2 v154] a w) _ _ he80 ⟨v76,H.pick [0,1,2]⟩ ?_
  clear h
  intro s79 o a w K254 hI h ho k254
  obtain ⟨v154,H⟩ := hI
  refine wp_seq_k (fun _ k255 => ?_)
  refine sr mx [] H (fun _ => .q 0 rfl<|.o (Qe Q9 z3)<|.o (Qd (u := (x_).Kinds) QaF z0 rfl)<|.o (QE ud23 z0)<|.o (QG z3 z0)<|.n) fun _ a w H => ?_
  have H := H.to [4,5,6,7] [_,_,_,_] [_] rfl rfl
  refine wi H h (fun b327 h => ?_) (fun b327 h => ?_)
  ·refine wp_skip (k255 _ _ ?_)
   refine wp_seq_k (fun K257 k257 => ?_)
   refine wp_block ?_
   have ⟨t55,ht55,h⟩ := bs h
   refine sr mx [] H (fun _ => .o (Qe Q9 z3)<|.o (Qd (u := (x_).Kinds) QaF z0 rfl)<|.q 3 rfl<|.o (Qr ud23 QZ z1 z0 ht55)<|.o (Qe Qaf z0)<|.o (Qd (u := (t55).Fields) QaK z0 rfl)<|.o (Qa z0)<|.n) fun _ a w H => ?_
   have H := H.to [6,8,9,10] [_,_,_,_] [_] rfl rfl
   refine wp_seq_k (fun K259 k259 => ?_)
   have ⟨t62,ht62,h⟩ := bs h
   have ⟨t65,ht65,h⟩ := bs h
   refine sr mx [] H (fun _ => .o (Qm Qar z3)<|.o (Qe Q9 z4)<|.o (Qd (u := (x_).Kinds) QaF z0 rfl)<|.q 4 rfl<|.o (Qr ud23 QZ z1 z0 ht62)<|.o (Qe Qbo z0)<|.o (Qd (u := (t62).Name) tok9 z0 rfl)<|.o (Qf Qlb (Qe1 ht65) (.cons (.of z6)<|.cons (.of z0)<|.nil))<|.q 9 rfl<|.o (QG z1 z0)<|.n) fun _ a w H => ?_
   have H := H.to [9,10,11,12,13] [_,_,_,_,_] [_] rfl rfl
   have ⟨p261,hp261,h⟩ := bs h
   have hJp261 : ∀ (v271 : Value) a w,St M w0 122 [(4,tv v271),(8,tsl Qb (t55).Fields),(7,ti s79.1),(1,tptr (Qg.cs x_))] [own Q3 94 p261 v271] a w → K259 a w := by
    intro v271 a w H
    refine k259 _ _ ?_
    refine sr mx [] H (fun _ => .o (Qa .k)<|.n) fun _ a w H => ?_
    have H := H.to [0,1,2,3,4] [_,_,_,_,_] [_] rfl rfl
    have ⟨e274,he274,h⟩ := bs h
    have hJp302 : ∀ (p302 : List QO) (v303 : Value) a w,p302 = e274 → St M w0 122 [(4,tv v303),(7,ti s79.1),(1,tptr (Qg.cs x_))] [own Q3 94 p302 v303] a w → K257 a w := by
     intro p302 v303 a w he H
     subst he
     refine k257 _ _ ?_
     refine wr mx [] H (fun _ => .q 1 rfl<|.o (QQ z0 .k)<|.o (Qa z0)<|.n) fun _ a w H => ?_
     have H := H.to [2,3,4] [_,_,_] [_] rfl rfl
     exact k254 _ _ _ (sj h).symm ⟨v303,H.pick [0,1,2]⟩
    refine wp_block ?_
    refine QR _ (fun (s273 : Int × List QO) a w => ∃ v288 : Value,St M w0 122 [(9,ti s273.1),(4,tv v288),(8,tsl Qb (t55).Fields),(7,ti s79.1),(1,tptr (Qg.cs x_))] [own Q3 94 s273.2 v288] a w) _ _ he274 ⟨v271,H.pick [0,1,2,3,4]⟩ ?_
    clear h
    intro s273 o a w K304 hI h ho k304
    obtain ⟨v288,H⟩ := hI
    refine wp_seq_k (fun _ k305 => ?_)
    refine sr mx [] H (fun _ => .q 0 rfl<|.q 3 rfl<|.o (QE ud53 z0)<|.o (QG z2 z0)<|.n) fun _ a w H => ?_
    have H := H.to [3,4,5,6,7,8] [_,_,_,_,_,_] [_] rfl rfl
    refine wi H h (fun b317 h => ?_) (fun b317 h => ?_)
    ·refine wp_skip (k305 _ _ ?_)
     refine wp_seq_k (fun K307 k307 => ?_)
     refine wp_block ?_
     have ⟨t86,ht86,h⟩ := bs h
     have ⟨t90,ht90,h⟩ := bs h
     have ⟨t93,ht93,h⟩ := bs h
     refine sr mx [] H (fun _ => .o (Qe Q9 z5)<|.o (Qd (u := (x_).Kinds) QaF z0 rfl)<|.q 6 rfl<|.o (Qr ud23 QZ z1 z0 ht86)<|.o (Qm QZ z0)<|.q 8 rfl<|.q 7 rfl<|.o (Qr ud53 QI z1 z0 ht90)<|.o (Qe Qbd z0)<|.o (Qd (u := (t90).Name) tok9 z0 rfl)<|.o (Qf Qmm (Qfw ht93) (.cons (.of z5)<|.cons (.of z0)<|.nil))<|.q 12 rfl<|.o (QG z1 z0)<|.n) fun _ a w H => ?_
     have H := H.to [12,14,15,16,17,18] [_,_,_,_,_,_] [_] rfl rfl
     have ⟨p309,hp309,h⟩ := bs h
     have hJp309 : ∀ (v313 : Value) a w,St M w0 122 [(4,tv v313),(9,ti s273.1),(8,tsl Qb (t55).Fields),(7,ti s79.1),(1,tptr (Qg.cs x_))] [own Q3 94 p309 v313] a w → K307 a w := by
      intro v313 a w H
      refine k307 _ _ ?_
      refine wr mx [] H (fun _ => .q 1 rfl<|.o (QQ z0 .k)<|.o (Qa z0)<|.n) fun _ a w H => ?_
      have H := H.to [2,3,4,5,6] [_,_,_,_,_] [_] rfl rfl
      exact k304 _ _ _ (sj h).symm ⟨v313,H.pick [0,1,2,3,4]⟩
     replace h := hp309
     clear hp309
     refine wi H h (fun b316 h => ?_) (fun b316 h => ?_)
     ·have ⟨t99,ht99,h⟩ := bs h
      refine wr mx [v1 3 (fun v0 => own Q3 94 t99 v0)] H (fun _ => .q 2 rfl<|.q 5 rfl<|.q 3 rfl<|.e [] [0] [1] rfl rfl rfl rfl (Qf Qkm (Qev ht99) (.cons (.of z2)<|.cons (.of z1)<|.cons (.of z0)<|.cons (.of .k)<|.cons (.of .k)<|.nil))<|.ud (f := fun v => tv v) 3 rfl [] rfl rfl (Qa z0)<|.n) fun n25 a w H => ?_
      have H := H.to [3,4,6,7,8,9] [_,_,_,_,_,_] [_] rfl rfl
      obtain rfl := sj h
      exact hJp309 (n25 3) _ _ (H.pick [1,2,3,4,5])
     have ⟨t106,ht106,h⟩ := bs h
     have ⟨t107,ht107,h⟩ := bs h
     refine wr mx [v1 7 (fun v0 => own Q3 94 t107 v0)] H (fun _ => .q 2 rfl<|.q 5 rfl<|.q 3 rfl<|.o (Qm Qar z8)<|.q 8 rfl<|.q 6 rfl<|.o (Qf call79 (QoQ ht106) (.cons (.of z2)<|.cons (.of z1)<|.cons (.of z0)<|.nil))<|.e [] [0] [1] rfl rfl rfl rfl (Qf Qkm (Qev ht107) (.cons (.of z6)<|.cons (.of z5)<|.cons (.of z4)<|.cons (.of .k)<|.cons (.of z0)<|.nil))<|.ud (f := fun v => tv v) 7 rfl [] rfl rfl (Qa z0)<|.n) fun n26 a w H => ?_
     have H := H.to [7,8,10,11,12,13] [_,_,_,_,_,_] [_] rfl rfl
     obtain rfl := sj h
     exact hJp309 (n26 7) _ _ (H.pick [1,2,3,4,5])
    refine wp_exit ?_
    exact hJp302 _ v288 _ _ (ho _ (sj h).symm) (H.pick [2,4,5])
   replace h := hp261
   clear hp261
   refine wi H h (fun b326 h => ?_) (fun b326 h => ?_)
   ·have ⟨t70,ht70,h⟩ := bs h
    refine wr mx [v1 2 (fun v0 => own Q3 94 t70 v0)] H (fun _ => .q 3 rfl<|.q 3 rfl<|.e [] [0] [1] rfl rfl rfl rfl (Qf Qkm (Qev ht70) (.cons (.of z1)<|.cons (.of z0)<|.cons (.of .k)<|.cons (.of .k)<|.cons (.of .k)<|.nil))<|.ud (f := fun v => tv v) 2 rfl [] rfl rfl (Qa z0)<|.n) fun n18 a w H => ?_
    have H := H.to [2,3,5,6,7] [_,_,_,_,_] [_] rfl rfl
    obtain rfl := sj h
    exact hJp261 (n18 2) _ _ (H.pick [1,2,3,4])
   have ⟨t72,ht72,h⟩ := bs h
   refine sr mx [] H (fun _ => .q 1 rfl<|.o (Qf call77 (QoN ht72) (.cons (.of z0)<|.nil))<|.o (Qae z0)<|.n) fun _ a w H => ?_
   have H := H.to [2,4,5,6,7] [_,_,_,_,_] [_] rfl rfl
   have ⟨p320,hp320,h⟩ := bs h
   have hJp320 : ∀ (v323 : Value) a w,St M w0 122 [(4,tv v323),(8,tsl Qb (t55).Fields),(7,ti s79.1),(1,tptr (Qg.cs x_))] [own Q3 94 p320 v323] a w → K259 a w := by
    intro v323 a w H
    obtain rfl := sj h
    exact hJp261 v323 _ _ (H.pick [0,1,2,3])
   replace h := hp320
   clear hp320
   refine wi H h (fun b325 h => ?_) (fun b325 h => ?_)
   ·have ⟨t76,ht76,h⟩ := bs h
    refine wr mx [v1 2 (fun v0 => own Q3 94 t76 v0)] H (fun _ => .q 3 rfl<|.q 3 rfl<|.e [] [0] [1] rfl rfl rfl rfl (Qf Qkm (Qev ht76) (.cons (.of z1)<|.cons (.of z0)<|.cons (.of .k)<|.cons (.of .k)<|.cons (.of .k)<|.nil))<|.ud (f := fun v => tv v) 2 rfl [] rfl rfl (Qa z0)<|.n) fun n20 a w H => ?_
    have H := H.to [2,3,5,6,7] [_,_,_,_,_] [_] rfl rfl
    obtain rfl := sj h
    exact hJp320 (n20 2) _ _ (H.pick [1,2,3,4])
   refine wp_skip ?_
   obtain rfl := sj h
   exact hJp320 v154 _ _ (H.pick [3,1,2,4])
  refine wp_exit ?_
  exact hJp228 _ v154 _ _ (ho _ (sj h).symm) (H.pick [2,3])
 refine wp_block ?_
 refine QR _ (fun (s12 : Int × List QO) a w => ∃ v48 : Value,St M w0 122 [(5,ti s12.1),(4,tv v48),(1,tptr (Qg.cs x_))] [own Q3 94 s12.2 v48] a w) _ _ he13 ⟨(.slice none 0 0),H.pick [0,1,2]⟩ ?_
 clear h
 intro s12 o a w K328 hI h ho k328
 obtain ⟨v48,H⟩ := hI
 refine wp_seq_k (fun _ k329 => ?_)
 refine sr mx [] H (fun _ => .q 0 rfl<|.o (Qe Qbc z3)<|.o (Qd (u := (x_).Lives) QeH z0 rfl)<|.o (QE ud24 z0)<|.o (QG z3 z0)<|.n) fun _ a w H => ?_
 have H := H.to [4,5,6,7] [_,_,_,_] [_] rfl rfl
 refine wi H h (fun b354 h => ?_) (fun b354 h => ?_)
 ·refine wp_skip (k329 _ _ ?_)
  refine wp_seq_k (fun K331 k331 => ?_)
  refine wp_block ?_
  refine sr mx [] H (fun _ => .o (Qa .k)<|.n) fun _ a w H => ?_
  have H := H.to [0,2,3,4] [_,_,_,_] [_] rfl rfl
  have ⟨e334,he334,h⟩ := bs h
  have hJp343 : ∀ (p343 : List QO) (v344 : Value) a w,p343 = e334 → St M w0 122 [(4,tv v344),(5,ti s12.1),(1,tptr (Qg.cs x_))] [own Q3 94 p343 v344] a w → K331 a w := by
   intro p343 v344 a w he H
   subst he
   refine k331 _ _ ?_
   refine wr mx [] H (fun _ => .q 1 rfl<|.o (QQ z0 .k)<|.o (Qa z0)<|.n) fun _ a w H => ?_
   have H := H.to [2,3,4] [_,_,_] [_] rfl rfl
   exact k328 _ _ _ (sj h).symm ⟨v344,H.pick [0,1,2]⟩
  refine wp_block ?_
  refine QR _ (fun (s333 : Int) a w => St M w0 122 [(6,ti s333),(5,ti s12.1),(4,tv v48),(1,tptr (Qg.cs x_))] [own Q3 94 s12.2 v48] a w) _ _ he334 (H.pick [0,1,2,3]) ?_
  clear h
  intro s333 o a w K345 hI h ho k345
  have H := hI
  clear hI
  refine wp_seq_k (fun _ k346 => ?_)
  refine sr mx [] H (fun _ => .q 0 rfl<|.q 2 rfl<|.o (QG z1 z0)<|.n) fun _ a w H => ?_
  have H := H.to [2,3,4,5,6] [_,_,_,_,_] [_] rfl rfl
  refine wi H h (fun b353 h => ?_) (fun b353 h => ?_)
  ·refine wp_skip (k346 _ _ ?_)
   refine wp_seq_k (fun _ k348 => ?_)
   refine wp_block ?_
   have ⟨t32,ht32,h⟩ := bs h
   have ⟨t38,ht38,h⟩ := bs h
   refine sr mx [] H (fun _ => .o (Qe Qbc z4)<|.o (Qd (u := (x_).Lives) QeH z0 rfl)<|.q 3 rfl<|.o (Qr ud24 Qby z1 z0 ht32)<|.o (Qe Qgw z0)<|.o (Qd (u := (t32).Name) tok9 z0 rfl)<|.o (Qe Qbc z10)<|.o (Qd (u := (x_).Lives) QeH z0 rfl)<|.q 10 rfl<|.o (Qr ud24 Qby z1 z0 ht38)<|.o (Qe Qgw z0)<|.o (Qd (u := (t38).Name) tok9 z0 rfl)<|.o (Qa6 z6 z0)<|.n) fun _ a w H => ?_
   have H := H.to [12,14,15,16,17] [_,_,_,_,_] [_] rfl rfl
   refine wi H h (fun b352 h => ?_) (fun b352 h => ?_)
   ·have ⟨t44,ht44,h⟩ := bs h
    refine sr mx [v1 2 (fun v0 => own Q3 94 t44 v0)] H (fun _ => .q 3 rfl<|.q 3 rfl<|.e [] [0] [1] rfl rfl rfl rfl (Qf Qkm (Qev ht44) (.cons (.of z1)<|.cons (.of .k)<|.cons (.of z0)<|.cons (.of .k)<|.cons (.of .k)<|.nil))<|.ud (f := fun v => tv v) 2 rfl [] rfl rfl (Qa z0)<|.n) fun n12 a w H => ?_
    have H := H.to [2,3,6,7] [_,_,_,_] [_] rfl rfl
    refine wp_exit ?_
    exact hJp343 _ (n12 2) _ _ (ho _ (sj h).symm) (H.pick [1,2,3])
   refine wp_skip (k348 _ _ ?_)
   refine wr mx [] H (fun _ => .q 1 rfl<|.o (QQ z0 .k)<|.o (Qa z0)<|.n) fun _ a w H => ?_
   have H := H.to [2,4,5,6] [_,_,_,_] [_] rfl rfl
   exact k345 _ _ _ (sj h).symm (H.pick [0,1,2,3])
  refine wp_exit ?_
  exact hJp343 _ v48 _ _ (ho _ (sj h).symm) (H.pick [3,2,4])
 refine wp_exit ?_
 exact hJp75 _ v48 _ _ (ho _ (sj h).symm) (H.pick [2,3])

end Go.Proofs.YtcdccjagknlmpaaGreatDoor
