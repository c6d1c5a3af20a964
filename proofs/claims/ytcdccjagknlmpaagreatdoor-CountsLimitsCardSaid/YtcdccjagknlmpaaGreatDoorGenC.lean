/- Go functions as Lean functions, and the proofs that they compute them, written by a program. No condition. -/
import Derived.Test.YtcdccjagknlmpaaGreatDoorGenB
namespace Go.Proofs.YtcdccjagknlmpaaGreatDoor
open Go.Sim
set_option maxRecDepth 100000
set_option maxHeartbeats 4000000

/- diorama/schema.span -/
noncomputable def Qcs (lo_ : Int) (hi_ : Int) (least_ : Int) (most_ : Int) : Option (Bool) := (some (((decide (lo_ ≥ least_)) && (decide (lo_ ≤ hi_))) && (decide (hi_ ≤ most_))))
theorem Qee {lo_ : Int} {hi_ : Int} {least_ : Int} {most_ : Int} {r : Bool} (h : Qcs lo_ hi_ least_ most_ = some r) : FnOk Tryz.prog 126 [ti lo_,ti hi_,ti least_,ti most_] [] (fun _ => []) (fun _ => tb r) := by
 unfold Qcs at h
 refine fe Tryz.func126 Tryz.ntmps126 fun M0 M w0 a hpl H => ?_
 replace H : St M w0 22 [(0,ti lo_),(1,ti hi_),(2,ti least_),(3,ti most_)] [] a w0 := H
 refine sr mx [] H (fun _ => .o (Qa .k)<|.n) fun _ a w H => ?_
 have H := H.to [1,2,3,4] [_,_,_,_] [] rfl rfl
 refine sr mx [] H (fun _ => .q 0 rfl<|.q 3 rfl<|.o (QaJ z1 z0)<|.q 0 rfl<|.g rfl rfl bq0 (fun _ => Qq z4)<|.g rfl rfl bq1 (fun _ => Qq z6)<|.g rfl rfl bq2 (fun hc => QcK (.cond z1 hc) (.cond z0 hc))<|.o (QW z3 (fun hp => (.cond z0 (beqT hp))))<|.q 0 rfl<|.g rfl rfl bq0 (fun _ => Qq z10)<|.g rfl rfl bq1 (fun _ => Qq z13)<|.g rfl rfl bq2 (fun hc => QcK (.cond z1 hc) (.cond z0 hc))<|.o (QW z3 (fun hp => (.cond z0 (beqT hp))))<|.o (Qa z0)<|.n) fun _ a w H => ?_
 have H := H.to [13] [_] [] rfl rfl
 refine wp_ret ?_
 obtain rfl := sj h
 exact rt undef [] hpl H (.tmp z0 .nil)

/- diorama/schema.all[diorama/api.Field]$1 -/
noncomputable def Qdf (x_ : Qc) (c0_ : (Qc → Option Bool)) : Option (Bool) := (c0_ x_).bind fun t6 => (some (!t6))
theorem Qld {x_ : Qc} {c0_ : (Qc → Option Bool)} {r : Bool} (h : Qdf x_ c0_ = some r) : FnOk Tryz.prog 155 [Qb.ty x_,tptr (Qii.cs c0_)] [] (fun _ => []) (fun _ => tb r) := by
 unfold Qdf at h
 refine fe Tryz.func155 Tryz.ntmps155 fun M0 M w0 a hpl H => ?_
 replace H : St M w0 8 [(0,Qb.ty x_),(1,tptr (Qii.cs c0_))] [] a w0 := H
 refine sr mx [] H (fun _ => .o (QV (R := Qb) (u := x_) z0)<|.o (Qa .k)<|.n) fun _ a w H => ?_
 have H := H.to [0,3] [_,_] [] rfl rfl
 have ⟨t6,ht6,h⟩ := bs h
 refine sr mx [] H (fun _ => .o (Qm tok168 z1)<|.o (Qm QI z1)<|.o (Qca (u := x_) z1 (.cons (.of z0)<|.nil) ht6)<|.o (Qae z0)<|.o (Qa z0)<|.n) fun _ a w H => ?_
 have H := H.to [4] [_] [] rfl rfl
 refine wp_ret ?_
 obtain rfl := sj h
 exact rt undef [] hpl H (.tmp z0 .nil)

/- slices.IndexFunc[[]diorama/api.Field,diorama/api.Field] -/
noncomputable def QaZ (s_ : (List Qc)) (f_ : (Qc → Option Bool)) : Option (Int) := (QF (fun (s4 : Int) => ((if (decide (s4 < (s_.length : Int))) = true then (idx s_ s4).bind fun t14 => (f_ t14).bind fun t16 => (if t16 = true then (some (.inr (.inr s4))) else (some (.inl (IntKind.i64.wrap (s4 + (1:Int)))))) else (some (.inr (.inl ())))) : Option ((Int) ⊕ ((Unit) ⊕ (Int))))) (0:Int)).bind fun (e5 : (Unit) ⊕ (Int)) => (match e5 with | .inl _ => (some (-1:Int)) | .inr p23 => (some p23))
theorem QgG {s_ : (List Qc)} {f_ : (Qc → Option Bool)} {r : Int} (h : QaZ s_ f_ = some r) : FnOk Tryz.prog 106 [tsl Qb s_,Qii.ty f_] [] (fun _ => []) (fun _ => ti r) := by
 unfold QaZ at h
 refine fe Tryz.func106 Tryz.ntmps106 fun M0 M w0 a hpl H => ?_
 replace H : St M w0 19 [(0,tsl Qb s_),(1,Qii.ty f_)] [] a w0 := H
 refine sr mx [] H (fun _ => .o (Qa .k)<|.n) fun _ a w H => ?_
 have H := H.to [1,2] [_,_] [] rfl rfl
 refine wp_seq_k (fun K2 k2 => ?_)
 refine sr mx [] H (fun _ => .q 0 rfl<|.o (QE ud53 z0)<|.o (Qq .k)<|.n) fun _ a w H => ?_
 have H := H.to [1,2,3,4] [_,_,_,_] [] rfl rfl
 have ⟨e5,he5,h⟩ := bs h
 have hJp22 : ∀ (p22 : Unit) a w,(.inl p22) = e5 → St M w0 19 [] [] a w → K2 a w := by
  intro p22 a w he H
  subst he
  simp only at h
  refine k2 _ _ ?_
  refine sr mx [] H (fun _ => .o (Qa .k)<|.n) fun _ a w H => ?_
  have H := H.to [0] [_] [] rfl rfl
  refine wp_ret ?_
  obtain rfl := sj h
  exact rt undef [] hpl H (.tmp z0 .nil)
 have hJp23 : ∀ (p23 : Int) a w,(.inr p23) = e5 → St M w0 19 [(4,ti p23)] [] a w → Ret Tryz.prog Tryz.f106 M0 [] w0 (fun _ => []) (fun _ => ti r) .ret a w := by
  intro p23 a w he H
  subst he
  simp only at h
  obtain rfl := sj h
  exact rt undef [] hpl H (.tmp z0 .nil)
 refine wp_block ?_
 refine QR _ (fun (s4 : Int) a w => St M w0 19 [(7,ti (s_.length : Int)),(8,ti s4),(0,tsl Qb s_),(1,Qii.ty f_)] [] a w) _ _ he5 (H.pick [0,1,2,3]) ?_
 clear h
 intro s4 o a w K25 hI h ho k25
 have H := hI
 clear hI
 refine sr mx [] H (fun _ => .o (QG z1 z0)<|.n) fun _ a w H => ?_
 have H := H.to [0,1,2,3,4] [_,_,_,_,_] [] rfl rfl
 refine wp_seq_k (fun _ k27 => ?_)
 refine wi H h (fun b33 h => ?_) (fun b33 h => ?_)
 ·refine wp_skip (k27 _ _ ?_)
  refine wp_seq_k (fun _ k28 => ?_)
  refine wp_block ?_
  refine sr mx [] H (fun _ => .q 2 rfl<|.o (Qa z0)<|.n) fun _ a w H => ?_
  have H := H.to [1,3,4,5,6] [_,_,_,_,_] [] rfl rfl
  have ⟨t14,ht14,h⟩ := bs h
  have ⟨t16,ht16,h⟩ := bs h
  refine sr mx [] H (fun _ => .q 4 rfl<|.q 4 rfl<|.q 2 rfl<|.o (Qr ud53 QI z1 z0 ht14)<|.o (Qm QI z0)<|.o (Qca (u := t14) z4 (.cons (.of z0)<|.nil) ht16)<|.n) fun _ a w H => ?_
  have H := H.to [5,6,7,8,9,10] [_,_,_,_,_,_] [] rfl rfl
  refine wi H h (fun b32 h => ?_) (fun b32 h => ?_)
  ·refine sr mx [] H (fun _ => .q 1 rfl<|.o (Qa z0)<|.n) fun _ a w H => ?_
   have H := H.to [1] [_] [] rfl rfl
   refine wp_ret ?_
   exact hJp23 _ _ _ (ho _ (sj h).symm) (H.pick [0])
  refine wp_skip (k28 _ _ ?_)
  refine wr mx [] H (fun _ => .o (QQ z3 .k)<|.q 0 rfl<|.n) fun _ a w H => ?_
  have H := H.to [1,4,5,6] [_,_,_,_] [] rfl rfl
  exact k25 _ _ _ (sj h).symm (H.pick [1,0,2,3])
 refine wp_exit ?_
 exact hJp22 _ _ _ (ho _ (sj h).symm) (H.pick [])

/- slices.ContainsFunc[[]diorama/api.Field,diorama/api.Field] -/
noncomputable def QaY (s_ : (List Qc)) (f_ : (Qc → Option Bool)) : Option (Bool) := (QaZ s_ f_).bind fun t7 => (some (decide (t7 ≥ (0:Int))))
theorem QiV {s_ : (List Qc)} {f_ : (Qc → Option Bool)} {r : Bool} (h : QaY s_ f_ = some r) : FnOk Tryz.prog 154 [tsl Qb s_,Qii.ty f_] [] (fun _ => []) (fun _ => tb r) := by
 unfold QaY at h
 refine fe Tryz.func154 Tryz.ntmps154 fun M0 M w0 a hpl H => ?_
 replace H : St M w0 9 [(0,tsl Qb s_),(1,Qii.ty f_)] [] a w0 := H
 refine sr mx [] H (fun _ => .o (Qa .k)<|.n) fun _ a w H => ?_
 have H := H.to [1,2] [_,_] [] rfl rfl
 have ⟨t7,ht7,h⟩ := bs h
 refine sr mx [] H (fun _ => .q 0 rfl<|.q 2 rfl<|.o (Qf QqO (QgG ht7) (.cons (.of z1)<|.cons (.of z0)<|.nil))<|.o (QaJ z0 .k)<|.o (Qa z0)<|.n) fun _ a w H => ?_
 have H := H.to [4] [_] [] rfl rfl
 refine wp_ret ?_
 obtain rfl := sj h
 exact rt undef [] hpl H (.tmp z0 .nil)

/- diorama/schema.all[diorama/api.Field] -/
noncomputable def Qcc (l_ : (List Qc)) (right_ : (Qc → Option Bool)) : Option (Bool) := (QaY l_ (fun x0 => Qdf x0 right_)).bind fun t7 => (some (!t7))
theorem Ql3 {l_ : (List Qc)} {right_ : (Qc → Option Bool)} {r : Bool} (h : Qcc l_ right_ = some r) : FnOk Tryz.prog 127 [tsl Qb l_,Qii.ty right_] [] (fun _ => []) (fun _ => tb r) := by
 unfold Qcc at h
 refine fe Tryz.func127 Tryz.ntmps127 fun M0 M w0 a hpl H => ?_
 replace H : St M w0 9 [(0,tsl Qb l_),(1,Qii.ty right_)] [] a w0 := H
 refine sr mx [] H (fun _ => .o (QV (R := Qii) (u := right_) z1)<|.o (Qa .k)<|.n) fun _ a w H => ?_
 have H := H.to [0,2] [_,_] [] rfl rfl
 have ⟨t7,ht7,h⟩ := bs h
 refine sr mx [] H (fun _ => .q 1 rfl<|.o (QdX (.cons z1<|.nil))<|.o (Qf Quo (QiV ht7) (.cons (.of z1)<|.cons (.of (Fct.weak z0 (Qb7 Qup (fun _ _ hq => Qld hq))))<|.nil))<|.o (Qae z0)<|.o (Qa z0)<|.n) fun _ a w H => ?_
 have H := H.to [4] [_] [] rfl rfl
 refine wp_ret ?_
 obtain rfl := sj h
 exact rt undef [] hpl H (.tmp z0 .nil)

/- diorama/schema.only -/
noncomputable def Qer (f_ : Qc) : Option (Qc) := ((if ((f_).Kind == (0:Int)) = true then (some (Qc.mk (f_).Name ([] : Str) ([] : Str) (f_).Kind (f_).Lo (0:Int) ([] : (List Str)) ([] : (List Int)))) else ((if ((f_).Kind == (1:Int)) = true then (some ((f_).Kind == (1:Int))) else ((if ((f_).Kind == (4:Int)) = true then (some ((f_).Kind == (4:Int))) else (some ((f_).Kind == (5:Int))))).bind fun (p535 : Bool) => (some p535))).bind fun (p277 : Bool) => ((if p277 = true then (some (Qc.mk (f_).Name (f_).Of ([] : Str) (f_).Kind (f_).Lo (f_).Hi ([] : (List Str)) ([] : (List Int)))) else ((if ((f_).Kind == (2:Int)) = true then (some (Qc.mk (f_).Name ([] : Str) ([] : Str) (f_).Kind (f_).Lo (f_).Hi ([] : (List Str)) ([] : (List Int)))) else ((if ((f_).Kind == (3:Int)) = true then (some (Qc.mk (f_).Name ([] : Str) ([] : Str) (f_).Kind (0:Int) (0:Int) (f_).Words (f_).Weights)) else ((if ((f_).Kind == (6:Int)) = true then (some (Qc.mk (f_).Name (f_).Of ([] : Str) (f_).Kind (0:Int) (0:Int) ([] : (List Str)) ([] : (List Int)))) else ((if ((f_).Kind == (7:Int)) = true then (some (Qc.mk (f_).Name (f_).Of (f_).Up (f_).Kind (f_).Lo (f_).Hi ([] : (List Str)) ([] : (List Int)))) else ((if ((f_).Kind == (8:Int)) = true then (some (Qc.mk (f_).Name (f_).Of (f_).Up (f_).Kind (0:Int) (0:Int) ([] : (List Str)) ([] : (List Int)))) else (some (Qc.mk (f_).Name ([] : Str) ([] : Str) (f_).Kind (0:Int) (0:Int) ([] : (List Str)) ([] : (List Int)))))).bind fun (p526 : Qc) => (some p526))).bind fun (p519 : Qc) => (some p519))).bind fun (p504 : Qc) => (some p504))).bind fun (p473 : Qc) => (some p473))).bind fun (p410 : Qc) => (some p410))).bind fun (p283 : Qc) => (some p283))).bind fun (p8 : Qc) => (some p8)
theorem QoH {f_ : Qc} {r : Qc} (h : Qer f_ = some r) : FnOk Tryz.prog 157 [Qb.ty f_] [] (fun _ => []) (fun _ => Qb.ty r) := by
 unfold Qer at h
 refine fe Tryz.func157 Tryz.ntmps157 fun M0 M w0 a hpl H => ?_
 replace H : St M w0 73 [(0,Qb.ty f_)] [] a w0 := H
 refine sr mx [v1 1 (fun v0 => box (Qb.cs zz0) v0)] H (fun _ => .o (QV (R := Qb) (u := f_) z0)<|.m [] [0] rfl rfl rfl (Q0 (R := Qb) (a := zz0) QI Qcy)<|.n) fun n0 a w H => ?_
 have H := H.to [0,1] [_,_] [_] rfl rfl
 refine sr mx [v1 5 (fun v0 => box (Qb.cs zz0) v0),v1 5 (fun v0 => box (Qb.cs (Qc.mk (f_).Name ([] : Str) ([] : Str) (f_).Kind (0:Int) (0:Int) ([] : (List Str)) ([] : (List Int)))) v0)] H (fun _ => .o (Qe Qbd z0)<|.o (Qd (u := (f_).Name) tok9 z0 rfl)<|.o (Qe Qao z2)<|.o (Qd (u := (f_).Kind) tok3 z0 rfl)<|.p (T := Qb.ty (Qc.mk (f_).Name ([] : Str) ([] : Str) (f_).Kind (0:Int) (0:Int) ([] : (List Str)) ([] : (List Int)))) rfl (QY ud61 pl61 zv61 zc61 (.cons (R := rS) (u := (f_).Name) rfl z2 (leb rfl)<|.cons (R := rI) (u := (f_).Kind) rfl z0 (leb rfl)<|.nil _))<|.m [] [1] rfl rfl rfl (Q0 (R := Qb) (a := zz0) QI Qcy)<|.e [] [1] [2] rfl rfl rfl rfl (QS (R := Qb) (a := (Qc.mk (f_).Name ([] : Str) ([] : Str) (f_).Kind (0:Int) (0:Int) ([] : (List Str)) ([] : (List Int)))) QI z0 z1 (leb rfl))<|.n) fun n1 a w H => ?_
 have H := H.to [5,6,7] [_,_,_] [_,_] rfl rfl
 refine wp_seq_k (fun K5 k5 => ?_)
 refine sr mx [] H (fun _ => .o (Qe Qao z1)<|.o (Qd (u := (f_).Kind) tok3 z0 rfl)<|.n) fun _ a w H => ?_
 have H := H.to [1,2,3,4] [_,_,_,_] [_,_] rfl rfl
 refine wp_block ?_
 refine sr mx [] H (fun _ => .o (QM z0 .k)<|.o (Qa z0)<|.n) fun _ a w H => ?_
 have H := H.to [1,2,3,4,5] [_,_,_,_,_] [_,_] rfl rfl
 have ⟨p8,hp8,h⟩ := bs h
 have hJp8 : ∀ a w,St M w0 73 [(3,tv (n1 5)),(2,tv (n0 1))] [box (Qb.cs zz0) (n0 1),box (Qb.cs p8) (n1 5)] a w → K5 a w := by
  intro a w H
  refine k5 _ _ ?_
  refine sr mx [v0 (box (Qb.cs p8) (n0 1))] H (fun _ => .u [1] rfl rfl (QdN (R := Qb) (u := p8) QI z0 rfl)<|.e [] [0] [2] rfl rfl rfl rfl (QS (R := Qb) (a := p8) QI z2 z0 (leb rfl))<|.n) fun _ a w H => ?_
  replace H : St _ _ _ [_] [_] _ _ := (H.pick [2]).selA [1] rfl
  refine wp_ret ?_
  obtain rfl := sj h
  exact rt undef [] hpl H (.cell (R := Qb) (u := p8) QI z0 0 rfl rfl .nil)
 replace h := hp8
 clear hp8
 refine wi H h (fun b539 h => ?_) (fun b539 h => ?_)
 ·refine wr mx [v0 (box (Qb.cs (Qc.mk (f_).Name ([] : Str) ([] : Str) (f_).Kind (f_).Lo (0:Int) ([] : (List Str)) ([] : (List Int)))) (n1 5))] H (fun _ => .o (Qe QaE z3)<|.o (Qd (u := (f_).Lo) tok3 z0 rfl)<|.u [1] rfl rfl (Qu QaE z4)<|.e [] [1] [2] rfl rfl rfl rfl (Qaq (R := rI) (a := (f_).Lo) (Ts := (Qb.cs (Qc.mk (f_).Name ([] : Str) ([] : Str) (f_).Kind (0:Int) (0:Int) ([] : (List Str)) ([] : (List Int))))) (off := 4) tok3 z0 z1 (leb rfl))<|.n) fun _ a w H => ?_
  have H := H.to [5,7] [_,_] [_,_] rfl rfl
  obtain rfl := sj h
  exact hJp8 _ _ (H.pick [0,1])
 refine wp_seq_k (fun K275 k275 => ?_)
 refine sr mx [] H (fun _ => .o (QM z1 .k)<|.o (Qa z0)<|.n) fun _ a w H => ?_
 have H := H.to [1,3,4,5,6] [_,_,_,_,_] [_,_] rfl rfl
 have ⟨p277,hp277,h⟩ := bs h
 have hJp277 : ∀ a w,St M w0 73 [(16,tb p277),(10,ti (f_).Kind),(3,tv (n1 5)),(1,tptr (Qb.cs f_)),(2,tv (n0 1))] [box (Qb.cs zz0) (n0 1),box (Qb.cs (Qc.mk (f_).Name ([] : Str) ([] : Str) (f_).Kind (0:Int) (0:Int) ([] : (List Str)) ([] : (List Int)))) (n1 5)] a w → K275 a w := by
  intro a w H
  refine k275 _ _ ?_
  have ⟨p283,hp283,h⟩ := bs h
  have hJp283 : ∀ a w,St M w0 73 [(3,tv (n1 5)),(2,tv (n0 1))] [box (Qb.cs zz0) (n0 1),box (Qb.cs p283) (n1 5)] a w → K5 a w := by
   intro a w H
   obtain rfl := sj h
   exact hJp8 _ _ (H.pick [0,1])
  replace h := hp283
  clear hp283
  refine wi H h (fun b533 h => ?_) (fun b533 h => ?_)
  ·refine wr mx [v0 (box (Qb.cs (Qc.mk (f_).Name (f_).Of ([] : Str) (f_).Kind (0:Int) (0:Int) ([] : (List Str)) ([] : (List Int)))) (n1 5)),v0 (box (Qb.cs (Qc.mk (f_).Name (f_).Of ([] : Str) (f_).Kind (f_).Lo (0:Int) ([] : (List Str)) ([] : (List Int)))) (n1 5)),v0 (box (Qb.cs (Qc.mk (f_).Name (f_).Of ([] : Str) (f_).Kind (f_).Lo (f_).Hi ([] : (List Str)) ([] : (List Int)))) (n1 5))] H (fun _ => .o (Qe Qas z3)<|.o (Qd (u := (f_).Of) tok9 z0 rfl)<|.o (Qe QaE z5)<|.o (Qd (u := (f_).Lo) tok3 z0 rfl)<|.o (Qe QaV z7)<|.o (Qd (u := (f_).Hi) tok3 z0 rfl)<|.u [1] rfl rfl (Qu Qas z8)<|.e [] [1] [2] rfl rfl rfl rfl (Qaq (R := rS) (a := (f_).Of) (Ts := (Qb.cs (Qc.mk (f_).Name ([] : Str) ([] : Str) (f_).Kind (0:Int) (0:Int) ([] : (List Str)) ([] : (List Int))))) (off := 1) tok9 z0 z5 (leb rfl))<|.u [2] rfl rfl (Qu QaE z9)<|.e [] [2] [3] rfl rfl rfl rfl (Qaq (R := rI) (a := (f_).Lo) (Ts := (Qb.cs (Qc.mk (f_).Name (f_).Of ([] : Str) (f_).Kind (0:Int) (0:Int) ([] : (List Str)) ([] : (List Int))))) (off := 4) tok3 z0 z4 (leb rfl))<|.u [3] rfl rfl (Qu QaV z10)<|.e [] [3] [4] rfl rfl rfl rfl (Qaq (R := rI) (a := (f_).Hi) (Ts := (Qb.cs (Qc.mk (f_).Name (f_).Of ([] : Str) (f_).Kind (f_).Lo (0:Int) ([] : (List Str)) ([] : (List Int))))) (off := 5) tok3 z0 z3 (leb rfl))<|.n) fun _ a w H => ?_
   have H := H.to [11,13] [_,_] [_,_] rfl rfl
   obtain rfl := sj h
   exact hJp283 _ _ (H.pick [0,1])
  refine sr mx [] H (fun _ => .o (QM z1 .k)<|.o (Qa z0)<|.n) fun _ a w H => ?_
  have H := H.to [1,3,4,5,6] [_,_,_,_,_] [_,_] rfl rfl
  have ⟨p410,hp410,h⟩ := bs h
  have hJp410 : ∀ a w,St M w0 73 [(3,tv (n1 5)),(2,tv (n0 1))] [box (Qb.cs zz0) (n0 1),box (Qb.cs p410) (n1 5)] a w → K5 a w := by
   intro a w H
   obtain rfl := sj h
   exact hJp283 _ _ (H.pick [0,1])
  replace h := hp410
  clear hp410
  refine wi H h (fun b532 h => ?_) (fun b532 h => ?_)
  ·refine wr mx [v0 (box (Qb.cs (Qc.mk (f_).Name ([] : Str) ([] : Str) (f_).Kind (f_).Lo (0:Int) ([] : (List Str)) ([] : (List Int)))) (n1 5)),v0 (box (Qb.cs (Qc.mk (f_).Name ([] : Str) ([] : Str) (f_).Kind (f_).Lo (f_).Hi ([] : (List Str)) ([] : (List Int)))) (n1 5))] H (fun _ => .o (Qe QaE z3)<|.o (Qd (u := (f_).Lo) tok3 z0 rfl)<|.o (Qe QaV z5)<|.o (Qd (u := (f_).Hi) tok3 z0 rfl)<|.u [1] rfl rfl (Qu QaE z6)<|.e [] [1] [2] rfl rfl rfl rfl (Qaq (R := rI) (a := (f_).Lo) (Ts := (Qb.cs (Qc.mk (f_).Name ([] : Str) ([] : Str) (f_).Kind (0:Int) (0:Int) ([] : (List Str)) ([] : (List Int))))) (off := 4) tok3 z0 z3 (leb rfl))<|.u [2] rfl rfl (Qu QaV z7)<|.e [] [2] [3] rfl rfl rfl rfl (Qaq (R := rI) (a := (f_).Hi) (Ts := (Qb.cs (Qc.mk (f_).Name ([] : Str) ([] : Str) (f_).Kind (f_).Lo (0:Int) ([] : (List Str)) ([] : (List Int))))) (off := 5) tok3 z0 z2 (leb rfl))<|.n) fun _ a w H => ?_
   have H := H.to [8,10] [_,_] [_,_] rfl rfl
   obtain rfl := sj h
   exact hJp410 _ _ (H.pick [0,1])
  refine sr mx [] H (fun _ => .o (QM z1 .k)<|.o (Qa z0)<|.n) fun _ a w H => ?_
  have H := H.to [1,3,4,5,6] [_,_,_,_,_] [_,_] rfl rfl
  have ⟨p473,hp473,h⟩ := bs h
  have hJp473 : ∀ a w,St M w0 73 [(3,tv (n1 5)),(2,tv (n0 1))] [box (Qb.cs zz0) (n0 1),box (Qb.cs p473) (n1 5)] a w → K5 a w := by
   intro a w H
   obtain rfl := sj h
   exact hJp410 _ _ (H.pick [0,1])
  replace h := hp473
  clear hp473
  refine wi H h (fun b531 h => ?_) (fun b531 h => ?_)
  ·refine wr mx [v0 (box (Qb.cs (Qc.mk (f_).Name ([] : Str) ([] : Str) (f_).Kind (0:Int) (0:Int) (f_).Words ([] : (List Int)))) (n1 5)),v0 (box (Qb.cs (Qc.mk (f_).Name ([] : Str) ([] : Str) (f_).Kind (0:Int) (0:Int) (f_).Words (f_).Weights)) (n1 5))] H (fun _ => .o (Qe QcM z3)<|.o (Qd (u := (f_).Words) Qbx z0 rfl)<|.o (Qe Qcl z5)<|.o (Qd (u := (f_).Weights) Qdc z0 rfl)<|.u [1] rfl rfl (Qu QcM z6)<|.e [] [1] [2] rfl rfl rfl rfl (Qaq (R := (rSl rS)) (a := (f_).Words) (Ts := (Qb.cs (Qc.mk (f_).Name ([] : Str) ([] : Str) (f_).Kind (0:Int) (0:Int) ([] : (List Str)) ([] : (List Int))))) (off := 6) Qbx z0 z3 (leb rfl))<|.u [2] rfl rfl (Qu Qcl z7)<|.e [] [2] [3] rfl rfl rfl rfl (Qaq (R := (rSl rI)) (a := (f_).Weights) (Ts := (Qb.cs (Qc.mk (f_).Name ([] : Str) ([] : Str) (f_).Kind (0:Int) (0:Int) (f_).Words ([] : (List Int))))) (off := 7) Qdc z0 z2 (leb rfl))<|.n) fun _ a w H => ?_
   have H := H.to [8,10] [_,_] [_,_] rfl rfl
   obtain rfl := sj h
   exact hJp473 _ _ (H.pick [0,1])
  refine sr mx [] H (fun _ => .o (QM z1 .k)<|.o (Qa z0)<|.n) fun _ a w H => ?_
  have H := H.to [1,3,4,5,6] [_,_,_,_,_] [_,_] rfl rfl
  have ⟨p504,hp504,h⟩ := bs h
  have hJp504 : ∀ a w,St M w0 73 [(3,tv (n1 5)),(2,tv (n0 1))] [box (Qb.cs zz0) (n0 1),box (Qb.cs p504) (n1 5)] a w → K5 a w := by
   intro a w H
   obtain rfl := sj h
   exact hJp473 _ _ (H.pick [0,1])
  replace h := hp504
  clear hp504
  refine wi H h (fun b530 h => ?_) (fun b530 h => ?_)
  ·refine wr mx [v0 (box (Qb.cs (Qc.mk (f_).Name (f_).Of ([] : Str) (f_).Kind (0:Int) (0:Int) ([] : (List Str)) ([] : (List Int)))) (n1 5))] H (fun _ => .o (Qe Qas z3)<|.o (Qd (u := (f_).Of) tok9 z0 rfl)<|.u [1] rfl rfl (Qu Qas z4)<|.e [] [1] [2] rfl rfl rfl rfl (Qaq (R := rS) (a := (f_).Of) (Ts := (Qb.cs (Qc.mk (f_).Name ([] : Str) ([] : Str) (f_).Kind (0:Int) (0:Int) ([] : (List Str)) ([] : (List Int))))) (off := 1) tok9 z0 z1 (leb rfl))<|.n) fun _ a w H => ?_
   have H := H.to [5,7] [_,_] [_,_] rfl rfl
   obtain rfl := sj h
   exact hJp504 _ _ (H.pick [0,1])
  refine sr mx [] H (fun _ => .o (QM z1 .k)<|.o (Qa z0)<|.n) fun _ a w H => ?_
  have H := H.to [1,3,4,5,6] [_,_,_,_,_] [_,_] rfl rfl
  have ⟨p519,hp519,h⟩ := bs h
  have hJp519 : ∀ a w,St M w0 73 [(3,tv (n1 5)),(2,tv (n0 1))] [box (Qb.cs zz0) (n0 1),box (Qb.cs p519) (n1 5)] a w → K5 a w := by
   intro a w H
   obtain rfl := sj h
   exact hJp504 _ _ (H.pick [0,1])
  replace h := hp519
  clear hp519
  refine wi H h (fun b529 h => ?_) (fun b529 h => ?_)
  ·refine wr mx [v0 (box (Qb.cs (Qc.mk (f_).Name (f_).Of ([] : Str) (f_).Kind (0:Int) (0:Int) ([] : (List Str)) ([] : (List Int)))) (n1 5)),v0 (box (Qb.cs (Qc.mk (f_).Name (f_).Of (f_).Up (f_).Kind (0:Int) (0:Int) ([] : (List Str)) ([] : (List Int)))) (n1 5)),v0 (box (Qb.cs (Qc.mk (f_).Name (f_).Of (f_).Up (f_).Kind (f_).Lo (0:Int) ([] : (List Str)) ([] : (List Int)))) (n1 5)),v0 (box (Qb.cs (Qc.mk (f_).Name (f_).Of (f_).Up (f_).Kind (f_).Lo (f_).Hi ([] : (List Str)) ([] : (List Int)))) (n1 5))] H (fun _ => .o (Qe Qas z3)<|.o (Qd (u := (f_).Of) tok9 z0 rfl)<|.o (Qe Qda z5)<|.o (Qd (u := (f_).Up) tok9 z0 rfl)<|.o (Qe QaE z7)<|.o (Qd (u := (f_).Lo) tok3 z0 rfl)<|.o (Qe QaV z9)<|.o (Qd (u := (f_).Hi) tok3 z0 rfl)<|.u [1] rfl rfl (Qu Qas z10)<|.e [] [1] [2] rfl rfl rfl rfl (Qaq (R := rS) (a := (f_).Of) (Ts := (Qb.cs (Qc.mk (f_).Name ([] : Str) ([] : Str) (f_).Kind (0:Int) (0:Int) ([] : (List Str)) ([] : (List Int))))) (off := 1) tok9 z0 z7 (leb rfl))<|.u [2] rfl rfl (Qu Qda z11)<|.e [] [2] [3] rfl rfl rfl rfl (Qaq (R := rS) (a := (f_).Up) (Ts := (Qb.cs (Qc.mk (f_).Name (f_).Of ([] : Str) (f_).Kind (0:Int) (0:Int) ([] : (List Str)) ([] : (List Int))))) (off := 2) tok9 z0 z6 (leb rfl))<|.u [3] rfl rfl (Qu QaE z12)<|.e [] [3] [4] rfl rfl rfl rfl (Qaq (R := rI) (a := (f_).Lo) (Ts := (Qb.cs (Qc.mk (f_).Name (f_).Of (f_).Up (f_).Kind (0:Int) (0:Int) ([] : (List Str)) ([] : (List Int))))) (off := 4) tok3 z0 z5 (leb rfl))<|.u [4] rfl rfl (Qu QaV z13)<|.e [] [4] [5] rfl rfl rfl rfl (Qaq (R := rI) (a := (f_).Hi) (Ts := (Qb.cs (Qc.mk (f_).Name (f_).Of (f_).Up (f_).Kind (f_).Lo (0:Int) ([] : (List Str)) ([] : (List Int))))) (off := 5) tok3 z0 z4 (leb rfl))<|.n) fun _ a w H => ?_
   have H := H.to [14,16] [_,_] [_,_] rfl rfl
   obtain rfl := sj h
   exact hJp519 _ _ (H.pick [0,1])
  refine sr mx [] H (fun _ => .o (QM z1 .k)<|.o (Qa z0)<|.n) fun _ a w H => ?_
  have H := H.to [1,4,5,6] [_,_,_,_] [_,_] rfl rfl
  have ⟨p526,hp526,h⟩ := bs h
  have hJp526 : ∀ a w,St M w0 73 [(3,tv (n1 5)),(2,tv (n0 1))] [box (Qb.cs zz0) (n0 1),box (Qb.cs p526) (n1 5)] a w → K5 a w := by
   intro a w H
   obtain rfl := sj h
   exact hJp519 _ _ (H.pick [0,1])
  replace h := hp526
  clear hp526
  refine wi H h (fun b528 h => ?_) (fun b528 h => ?_)
  ·refine wr mx [v0 (box (Qb.cs (Qc.mk (f_).Name (f_).Of ([] : Str) (f_).Kind (0:Int) (0:Int) ([] : (List Str)) ([] : (List Int)))) (n1 5)),v0 (box (Qb.cs (Qc.mk (f_).Name (f_).Of (f_).Up (f_).Kind (0:Int) (0:Int) ([] : (List Str)) ([] : (List Int)))) (n1 5))] H (fun _ => .o (Qe Qas z2)<|.o (Qd (u := (f_).Of) tok9 z0 rfl)<|.o (Qe Qda z4)<|.o (Qd (u := (f_).Up) tok9 z0 rfl)<|.u [1] rfl rfl (Qu Qas z5)<|.e [] [1] [2] rfl rfl rfl rfl (Qaq (R := rS) (a := (f_).Of) (Ts := (Qb.cs (Qc.mk (f_).Name ([] : Str) ([] : Str) (f_).Kind (0:Int) (0:Int) ([] : (List Str)) ([] : (List Int))))) (off := 1) tok9 z0 z3 (leb rfl))<|.u [2] rfl rfl (Qu Qda z6)<|.e [] [2] [3] rfl rfl rfl rfl (Qaq (R := rS) (a := (f_).Up) (Ts := (Qb.cs (Qc.mk (f_).Name (f_).Of ([] : Str) (f_).Kind (0:Int) (0:Int) ([] : (List Str)) ([] : (List Int))))) (off := 2) tok9 z0 z2 (leb rfl))<|.n) fun _ a w H => ?_
   have H := H.to [7,9] [_,_] [_,_] rfl rfl
   obtain rfl := sj h
   exact hJp526 _ _ (H.pick [0,1])
  refine wp_skip ?_
  obtain rfl := sj h
  exact hJp526 _ _ (H.pick [1,3])
 replace h := hp277
 clear hp277
 refine wi H h (fun b538 h => ?_) (fun b538 h => ?_)
 ·refine wp_skip ?_
  obtain rfl := sj h
  exact hJp277 _ _ (H.pick [0,1,2,3,4])
 refine sr mx [] H (fun _ => .o (QM z1 .k)<|.o (Qa z0)<|.n) fun _ a w H => ?_
 have H := H.to [1,2,3,4,5] [_,_,_,_,_] [_,_] rfl rfl
 have ⟨p535,hp535,h⟩ := bs h
 have hJp535 : ∀ a w,St M w0 73 [(16,tb p535),(10,ti (f_).Kind),(3,tv (n1 5)),(1,tptr (Qb.cs f_)),(2,tv (n0 1))] [box (Qb.cs zz0) (n0 1),box (Qb.cs (Qc.mk (f_).Name ([] : Str) ([] : Str) (f_).Kind (0:Int) (0:Int) ([] : (List Str)) ([] : (List Int)))) (n1 5)] a w → K275 a w := by
  intro a w H
  obtain rfl := sj h
  exact hJp277 _ _ (H.pick [0,1,2,3,4])
 replace h := hp535
 clear hp535
 refine wi H h (fun b537 h => ?_) (fun b537 h => ?_)
 ·refine wp_skip ?_
  obtain rfl := sj h
  exact hJp535 _ _ (H.pick [0,1,2,3,4])
 refine wr mx [] H (fun _ => .o (QM z1 .k)<|.o (Qa z0)<|.n) fun _ a w H => ?_
 have H := H.to [1,2,3,4,5] [_,_,_,_,_] [_,_] rfl rfl
 obtain rfl := sj h
 exact hJp535 _ _ (H.pick [0,1,2,3,4])

/- slices.Equal[[]string,string] -/
noncomputable def QbE (s1_ : (List Str)) (s2_ : (List Str)) : Option (Bool) := (if ((s1_.length : Int) != (s2_.length : Int)) = true then (some false) else (QF (fun (s7 : Int) => ((if (decide (s7 < (s1_.length : Int))) = true then (idx s1_ s7).bind fun t18 => (idx s2_ s7).bind fun t22 => (if (t18 != t22) = true then (some (.inr (.inr false))) else (some (.inl (IntKind.i64.wrap (s7 + (1:Int)))))) else (some (.inr (.inl ())))) : Option ((Int) ⊕ ((Unit) ⊕ (Bool))))) (0:Int)).bind fun (e8 : (Unit) ⊕ (Bool)) => (match e8 with | .inl _ => (some true) | .inr p26 => (some p26)))
theorem QkS {s1_ : (List Str)} {s2_ : (List Str)} {r : Bool} (h : QbE s1_ s2_ = some r) : FnOk Tryz.prog 174 [tsl rS s1_,tsl rS s2_] [] (fun _ => []) (fun _ => tb r) := by
 unfold QbE at h
 refine fe Tryz.func174 Tryz.ntmps174 fun M0 M w0 a hpl H => ?_
 replace H : St M w0 26 [(0,tsl rS s1_),(1,tsl rS s2_)] [] a w0 := H
 refine sr mx [] H (fun _ => .o (Qa .k)<|.n) fun _ a w H => ?_
 have H := H.to [1,2] [_,_] [] rfl rfl
 refine wp_seq_k (fun _ k2 => ?_)
 refine sr mx [] H (fun _ => .q 0 rfl<|.o (QE ud32 z0)<|.q 3 rfl<|.o (QE ud32 z0)<|.o (Qau z2 z0)<|.n) fun _ a w H => ?_
 have H := H.to [4,5,6] [_,_,_] [] rfl rfl
 refine wi H h (fun b37 h => ?_) (fun b37 h => ?_)
 ·refine sr mx [] H (fun _ => .o (Qa .k)<|.n) fun _ a w H => ?_
  have H := H.to [0] [_] [] rfl rfl
  refine wp_ret ?_
  obtain rfl := sj h
  exact rt undef [] hpl H (.tmp z0 .nil)
 refine wp_skip (k2 _ _ ?_)
 refine wp_seq_k (fun K5 k5 => ?_)
 refine sr mx [] H (fun _ => .q 1 rfl<|.o (QE ud32 z0)<|.o (Qq .k)<|.n) fun _ a w H => ?_
 have H := H.to [1,2,4,5] [_,_,_,_] [] rfl rfl
 have ⟨e8,he8,h⟩ := bs h
 have hJp25 : ∀ (p25 : Unit) a w,(.inl p25) = e8 → St M w0 26 [] [] a w → K5 a w := by
  intro p25 a w he H
  subst he
  simp only at h
  refine k5 _ _ ?_
  refine sr mx [] H (fun _ => .o (Qa .k)<|.n) fun _ a w H => ?_
  have H := H.to [0] [_] [] rfl rfl
  refine wp_ret ?_
  obtain rfl := sj h
  exact rt undef [] hpl H (.tmp z0 .nil)
 have hJp26 : ∀ (p26 : Bool) a w,(.inr p26) = e8 → St M w0 26 [(4,tb p26)] [] a w → Ret Tryz.prog Tryz.f174 M0 [] w0 (fun _ => []) (fun _ => tb r) .ret a w := by
  intro p26 a w he H
  subst he
  simp only at h
  obtain rfl := sj h
  exact rt undef [] hpl H (.tmp z0 .nil)
 refine wp_block ?_
 refine QR _ (fun (s7 : Int) a w => St M w0 26 [(12,ti (s1_.length : Int)),(13,ti s7),(0,tsl rS s1_),(1,tsl rS s2_)] [] a w) _ _ he8 (H.pick [0,1,2,3]) ?_
 clear h
 intro s7 o a w K28 hI h ho k28
 have H := hI
 clear hI
 refine sr mx [] H (fun _ => .o (QG z1 z0)<|.n) fun _ a w H => ?_
 have H := H.to [0,1,2,3,4] [_,_,_,_,_] [] rfl rfl
 refine wp_seq_k (fun _ k30 => ?_)
 refine wi H h (fun b36 h => ?_) (fun b36 h => ?_)
 ·refine wp_skip (k30 _ _ ?_)
  refine wp_seq_k (fun _ k31 => ?_)
  refine wp_block ?_
  refine sr mx [] H (fun _ => .q 2 rfl<|.o (Qa z0)<|.n) fun _ a w H => ?_
  have H := H.to [1,3,4,5,6] [_,_,_,_,_] [] rfl rfl
  have ⟨t18,ht18,h⟩ := bs h
  have ⟨t22,ht22,h⟩ := bs h
  refine sr mx [] H (fun _ => .q 3 rfl<|.q 1 rfl<|.o (Qr ud32 tok9 z1 z0 ht18)<|.o (Qm tok9 z0)<|.q 8 rfl<|.q 5 rfl<|.o (Qr ud32 tok9 z1 z0 ht22)<|.o (Qm tok9 z0)<|.o (Qeb z4 z0)<|.n) fun _ a w H => ?_
  have H := H.to [8,10,11,12,13] [_,_,_,_,_] [] rfl rfl
  refine wi H h (fun b35 h => ?_) (fun b35 h => ?_)
  ·refine sr mx [] H (fun _ => .o (Qa .k)<|.n) fun _ a w H => ?_
   have H := H.to [0] [_] [] rfl rfl
   refine wp_ret ?_
   exact hJp26 _ _ _ (ho _ (sj h).symm) (H.pick [0])
  refine wp_skip (k31 _ _ ?_)
  refine wr mx [] H (fun _ => .o (QQ z2 .k)<|.q 0 rfl<|.n) fun _ a w H => ?_
  have H := H.to [1,3,4,5] [_,_,_,_] [] rfl rfl
  exact k28 _ _ _ (sj h).symm (H.pick [1,0,2,3])
 refine wp_exit ?_
 exact hJp25 _ _ _ (ho _ (sj h).symm) (H.pick [])

/- slices.Equal[[]int,int] -/
noncomputable def Qcd (s1_ : (List Int)) (s2_ : (List Int)) : Option (Bool) := (if ((s1_.length : Int) != (s2_.length : Int)) = true then (some false) else (QF (fun (s7 : Int) => ((if (decide (s7 < (s1_.length : Int))) = true then (idx s1_ s7).bind fun t18 => (idx s2_ s7).bind fun t22 => (if (t18 != t22) = true then (some (.inr (.inr false))) else (some (.inl (IntKind.i64.wrap (s7 + (1:Int)))))) else (some (.inr (.inl ())))) : Option ((Int) ⊕ ((Unit) ⊕ (Bool))))) (0:Int)).bind fun (e8 : (Unit) ⊕ (Bool)) => (match e8 with | .inl _ => (some true) | .inr p26 => (some p26)))
theorem Ql4 {s1_ : (List Int)} {s2_ : (List Int)} {r : Bool} (h : Qcd s1_ s2_ = some r) : FnOk Tryz.prog 175 [tsl rI s1_,tsl rI s2_] [] (fun _ => []) (fun _ => tb r) := by
 unfold Qcd at h
 refine fe Tryz.func175 Tryz.ntmps175 fun M0 M w0 a hpl H => ?_
 replace H : St M w0 26 [(0,tsl rI s1_),(1,tsl rI s2_)] [] a w0 := H
 refine sr mx [] H (fun _ => .o (Qa .k)<|.n) fun _ a w H => ?_
 have H := H.to [1,2] [_,_] [] rfl rfl
 refine wp_seq_k (fun _ k2 => ?_)
 refine sr mx [] H (fun _ => .q 0 rfl<|.o (QE ud22 z0)<|.q 3 rfl<|.o (QE ud22 z0)<|.o (Qau z2 z0)<|.n) fun _ a w H => ?_
 have H := H.to [4,5,6] [_,_,_] [] rfl rfl
 refine wi H h (fun b37 h => ?_) (fun b37 h => ?_)
 ·refine sr mx [] H (fun _ => .o (Qa .k)<|.n) fun _ a w H => ?_
  have H := H.to [0] [_] [] rfl rfl
  refine wp_ret ?_
  obtain rfl := sj h
  exact rt undef [] hpl H (.tmp z0 .nil)
 refine wp_skip (k2 _ _ ?_)
 refine wp_seq_k (fun K5 k5 => ?_)
 refine sr mx [] H (fun _ => .q 1 rfl<|.o (QE ud22 z0)<|.o (Qq .k)<|.n) fun _ a w H => ?_
 have H := H.to [1,2,4,5] [_,_,_,_] [] rfl rfl
 have ⟨e8,he8,h⟩ := bs h
 have hJp25 : ∀ (p25 : Unit) a w,(.inl p25) = e8 → St M w0 26 [] [] a w → K5 a w := by
  intro p25 a w he H
  subst he
  simp only at h
  refine k5 _ _ ?_
  refine sr mx [] H (fun _ => .o (Qa .k)<|.n) fun _ a w H => ?_
  have H := H.to [0] [_] [] rfl rfl
  refine wp_ret ?_
  obtain rfl := sj h
  exact rt undef [] hpl H (.tmp z0 .nil)
 have hJp26 : ∀ (p26 : Bool) a w,(.inr p26) = e8 → St M w0 26 [(4,tb p26)] [] a w → Ret Tryz.prog Tryz.f175 M0 [] w0 (fun _ => []) (fun _ => tb r) .ret a w := by
  intro p26 a w he H
  subst he
  simp only at h
  obtain rfl := sj h
  exact rt undef [] hpl H (.tmp z0 .nil)
 refine wp_block ?_
 refine QR _ (fun (s7 : Int) a w => St M w0 26 [(12,ti (s1_.length : Int)),(13,ti s7),(0,tsl rI s1_),(1,tsl rI s2_)] [] a w) _ _ he8 (H.pick [0,1,2,3]) ?_
 clear h
 intro s7 o a w K28 hI h ho k28
 have H := hI
 clear hI
 refine sr mx [] H (fun _ => .o (QG z1 z0)<|.n) fun _ a w H => ?_
 have H := H.to [0,1,2,3,4] [_,_,_,_,_] [] rfl rfl
 refine wp_seq_k (fun _ k30 => ?_)
 refine wi H h (fun b36 h => ?_) (fun b36 h => ?_)
 ·refine wp_skip (k30 _ _ ?_)
  refine wp_seq_k (fun _ k31 => ?_)
  refine wp_block ?_
  refine sr mx [] H (fun _ => .q 2 rfl<|.o (Qa z0)<|.n) fun _ a w H => ?_
  have H := H.to [1,3,4,5,6] [_,_,_,_,_] [] rfl rfl
  have ⟨t18,ht18,h⟩ := bs h
  have ⟨t22,ht22,h⟩ := bs h
  refine sr mx [] H (fun _ => .q 3 rfl<|.q 1 rfl<|.o (Qr ud22 tok3 z1 z0 ht18)<|.o (Qm tok3 z0)<|.q 8 rfl<|.q 5 rfl<|.o (Qr ud22 tok3 z1 z0 ht22)<|.o (Qm tok3 z0)<|.o (Qau z4 z0)<|.n) fun _ a w H => ?_
  have H := H.to [8,10,11,12,13] [_,_,_,_,_] [] rfl rfl
  refine wi H h (fun b35 h => ?_) (fun b35 h => ?_)
  ·refine sr mx [] H (fun _ => .o (Qa .k)<|.n) fun _ a w H => ?_
   have H := H.to [0] [_] [] rfl rfl
   refine wp_ret ?_
   exact hJp26 _ _ _ (ho _ (sj h).symm) (H.pick [0])
  refine wp_skip (k31 _ _ ?_)
  refine wr mx [] H (fun _ => .o (QQ z2 .k)<|.q 0 rfl<|.n) fun _ a w H => ?_
  have H := H.to [1,3,4,5] [_,_,_,_] [] rfl rfl
  exact k28 _ _ _ (sj h).symm (H.pick [1,0,2,3])
 refine wp_exit ?_
 exact hJp25 _ _ _ (ho _ (sj h).symm) (H.pick [])

/- diorama/schema.sameField -/
noncomputable def Qce (a_ : Qc) (b_ : Qc) : Option (Bool) := (opt ((((((((a_).Name == (b_).Name) && ((a_).Of == (b_).Of)) && ((a_).Up == (b_).Up)) && ((a_).Kind == (b_).Kind)) && ((a_).Lo == (b_).Lo)) && ((a_).Hi == (b_).Hi)) == true) (QbE (a_).Words (b_).Words) default).bind fun t50 => (opt (((((((((a_).Name == (b_).Name) && ((a_).Of == (b_).Of)) && ((a_).Up == (b_).Up)) && ((a_).Kind == (b_).Kind)) && ((a_).Lo == (b_).Lo)) && ((a_).Hi == (b_).Hi)) && t50) == true) (Qcd (a_).Weights (b_).Weights) default).bind fun t57 => (some (((((((((a_).Name == (b_).Name) && ((a_).Of == (b_).Of)) && ((a_).Up == (b_).Up)) && ((a_).Kind == (b_).Kind)) && ((a_).Lo == (b_).Lo)) && ((a_).Hi == (b_).Hi)) && t50) && t57))
theorem Ql5 {a_ : Qc} {b_ : Qc} {r : Bool} (h : Qce a_ b_ = some r) : FnOk Tryz.prog 156 [Qb.ty a_,Qb.ty b_] [] (fun _ => []) (fun _ => tb r) := by
 unfold Qce at h
 refine fe Tryz.func156 Tryz.ntmps156 fun M0 M w0 a hpl H => ?_
 replace H : St M w0 59 [(0,Qb.ty a_),(1,Qb.ty b_)] [] a w0 := H
 refine sr mx [] H (fun _ => .o (QV (R := Qb) (u := a_) z0)<|.o (QV (R := Qb) (u := b_) z2)<|.o (Qa .k)<|.n) fun _ a w H => ?_
 have H := H.to [0,1] [_,_] [] rfl rfl
 have ⟨t50,ht50,h⟩ := bs h
 have ⟨t57,ht57,h⟩ := bs h
 refine sr mx [] H (fun _ => .o (Qe Qbd z0)<|.o (Qd (u := (a_).Name) tok9 z0 rfl)<|.o (Qe Qbd z3)<|.o (Qd (u := (b_).Name) tok9 z0 rfl)<|.o (Qa6 z2 z0)<|.q 0 rfl<|.g rfl rfl bq0 (fun _ => Qe Qas z6)<|.g rfl rfl bq1 (fun hc => Qd (u := (a_).Of) tok9 (.cond z0 hc) rfl)<|.g rfl rfl bq2 (fun _ => Qe Qas z9)<|.g rfl rfl bq3 (fun hc => Qd (u := (b_).Of) tok9 (.cond z0 hc) rfl)<|.g rfl rfl bq4 (fun hc => Qa6 (.cond z2 hc) (.cond z0 hc))<|.o (QW z5 (fun hp => (.cond z0 (beqT hp))))<|.q 0 rfl<|.g rfl rfl bq0 (fun _ => Qe Qda z13)<|.g rfl rfl bq1 (fun hc => Qd (u := (a_).Up) tok9 (.cond z0 hc) rfl)<|.g rfl rfl bq2 (fun _ => Qe Qda z16)<|.g rfl rfl bq3 (fun hc => Qd (u := (b_).Up) tok9 (.cond z0 hc) rfl)<|.g rfl rfl bq4 (fun hc => Qa6 (.cond z2 hc) (.cond z0 hc))<|.o (QW z5 (fun hp => (.cond z0 (beqT hp))))<|.q 0 rfl<|.g rfl rfl bq0 (fun _ => Qe Qao z20)<|.g rfl rfl bq1 (fun hc => Qd (u := (a_).Kind) tok3 (.cond z0 hc) rfl)<|.g rfl rfl bq2 (fun _ => Qe Qao z23)<|.g rfl rfl bq3 (fun hc => Qd (u := (b_).Kind) tok3 (.cond z0 hc) rfl)<|.g rfl rfl bq4 (fun hc => QM (.cond z2 hc) (.cond z0 hc))<|.o (QW z5 (fun hp => (.cond z0 (beqT hp))))<|.q 0 rfl<|.g rfl rfl bq0 (fun _ => Qe QaE z27)<|.g rfl rfl bq1 (fun hc => Qd (u := (a_).Lo) tok3 (.cond z0 hc) rfl)<|.g rfl rfl bq2 (fun _ => Qe QaE z30)<|.g rfl rfl bq3 (fun hc => Qd (u := (b_).Lo) tok3 (.cond z0 hc) rfl)<|.g rfl rfl bq4 (fun hc => QM (.cond z2 hc) (.cond z0 hc))<|.o (QW z5 (fun hp => (.cond z0 (beqT hp))))<|.q 0 rfl<|.g rfl rfl bq0 (fun _ => Qe QaV (.t 34 rfl))<|.g rfl rfl bq1 (fun hc => Qd (u := (a_).Hi) tok3 (.cond z0 hc) rfl)<|.g rfl rfl bq2 (fun _ => Qe QaV (.t 37 rfl))<|.g rfl rfl bq3 (fun hc => Qd (u := (b_).Hi) tok3 (.cond z0 hc) rfl)<|.g rfl rfl bq4 (fun hc => QM (.cond z2 hc) (.cond z0 hc))<|.o (QW z5 (fun hp => (.cond z0 (beqT hp))))<|.q 0 rfl<|.g rfl rfl bq0 (fun _ => Qe QcM (.t 41 rfl))<|.g rfl rfl bq1 (fun hc => Qd (u := (a_).Words) Qbx (.cond z0 hc) rfl)<|.g rfl rfl bq2 (fun _ => Qe QcM (.t 44 rfl))<|.g rfl rfl bq3 (fun hc => Qd (u := (b_).Words) Qbx (.cond z0 hc) rfl)<|.g rfl rfl bq4 (fun hc => Qf QuC (QkS (Qaj ht50 hc)) (.cons (.of (.cond z2 hc))<|.cons (.of (.cond z0 hc))<|.nil))<|.o (QW z5 (fun hp => (.cond z0 (beqT hp))))<|.q 0 rfl<|.g rfl rfl bq0 (fun _ => Qe Qcl (.t 48 rfl))<|.g rfl rfl bq1 (fun hc => Qd (u := (a_).Weights) Qdc (.cond z0 hc) rfl)<|.g rfl rfl bq2 (fun _ => Qe Qcl (.t 51 rfl))<|.g rfl rfl bq3 (fun hc => Qd (u := (b_).Weights) Qdc (.cond z0 hc) rfl)<|.g rfl rfl bq4 (fun hc => Qf QuD (Ql4 (Qaj ht57 hc)) (.cons (.of (.cond z2 hc))<|.cons (.of (.cond z0 hc))<|.nil))<|.o (QW z5 (fun hp => (.cond z0 (beqT hp))))<|.o (Qa z0)<|.n) fun _ a w H => ?_
 have H := H.to [54] [_] [] rfl rfl
 refine wp_ret ?_
 obtain rfl := sj h
 exact rt undef [] hpl H (.tmp z0 .nil)

/- diorama/schema.all[string]$1 -/
noncomputable def QcZ (x_ : Str) (c0_ : (Str → Option Bool)) : Option (Bool) := (c0_ x_).bind fun t6 => (some (!t6))
theorem QkT {x_ : Str} {c0_ : (Str → Option Bool)} {r : Bool} (h : QcZ x_ c0_ = some r) : FnOk Tryz.prog 160 [tv (.string (sB x_)),tptr (Qij.cs c0_)] [] (fun _ => []) (fun _ => tb r) := by
 unfold QcZ at h
 refine fe Tryz.func160 Tryz.ntmps160 fun M0 M w0 a hpl H => ?_
 replace H : St M w0 8 [(0,tv (.string (sB x_))),(1,tptr (Qij.cs c0_))] [] a w0 := H
 refine sr mx [] H (fun _ => .o (Qa .k)<|.n) fun _ a w H => ?_
 have H := H.to [1,2] [_,_] [] rfl rfl
 have ⟨t6,ht6,h⟩ := bs h
 refine sr mx [] H (fun _ => .o (Qm tok178 z1)<|.q 1 rfl<|.o (Qca (u := x_) z1 (.cons (.of z0)<|.nil) ht6)<|.o (Qae z0)<|.o (Qa z0)<|.n) fun _ a w H => ?_
 have H := H.to [4] [_] [] rfl rfl
 refine wp_ret ?_
 obtain rfl := sj h
 exact rt undef [] hpl H (.tmp z0 .nil)

/- slices.IndexFunc[[]string,string] -/
noncomputable def Qa9 (s_ : (List Str)) (f_ : (Str → Option Bool)) : Option (Int) := (QF (fun (s4 : Int) => ((if (decide (s4 < (s_.length : Int))) = true then (idx s_ s4).bind fun t14 => (f_ t14).bind fun t16 => (if t16 = true then (some (.inr (.inr s4))) else (some (.inl (IntKind.i64.wrap (s4 + (1:Int)))))) else (some (.inr (.inl ())))) : Option ((Int) ⊕ ((Unit) ⊕ (Int))))) (0:Int)).bind fun (e5 : (Unit) ⊕ (Int)) => (match e5 with | .inl _ => (some (-1:Int)) | .inr p23 => (some p23))
theorem QjL {s_ : (List Str)} {f_ : (Str → Option Bool)} {r : Int} (h : Qa9 s_ f_ = some r) : FnOk Tryz.prog 176 [tsl rS s_,Qij.ty f_] [] (fun _ => []) (fun _ => ti r) := by
 unfold Qa9 at h
 refine fe Tryz.func176 Tryz.ntmps176 fun M0 M w0 a hpl H => ?_
 replace H : St M w0 19 [(0,tsl rS s_),(1,Qij.ty f_)] [] a w0 := H
 refine sr mx [] H (fun _ => .o (Qa .k)<|.n) fun _ a w H => ?_
 have H := H.to [1,2] [_,_] [] rfl rfl
 refine wp_seq_k (fun K2 k2 => ?_)
 refine sr mx [] H (fun _ => .q 0 rfl<|.o (QE ud32 z0)<|.o (Qq .k)<|.n) fun _ a w H => ?_
 have H := H.to [1,2,3,4] [_,_,_,_] [] rfl rfl
 have ⟨e5,he5,h⟩ := bs h
 have hJp22 : ∀ (p22 : Unit) a w,(.inl p22) = e5 → St M w0 19 [] [] a w → K2 a w := by
  intro p22 a w he H
  subst he
  simp only at h
  refine k2 _ _ ?_
  refine sr mx [] H (fun _ => .o (Qa .k)<|.n) fun _ a w H => ?_
  have H := H.to [0] [_] [] rfl rfl
  refine wp_ret ?_
  obtain rfl := sj h
  exact rt undef [] hpl H (.tmp z0 .nil)
 have hJp23 : ∀ (p23 : Int) a w,(.inr p23) = e5 → St M w0 19 [(4,ti p23)] [] a w → Ret Tryz.prog Tryz.f176 M0 [] w0 (fun _ => []) (fun _ => ti r) .ret a w := by
  intro p23 a w he H
  subst he
  simp only at h
  obtain rfl := sj h
  exact rt undef [] hpl H (.tmp z0 .nil)
 refine wp_block ?_
 refine QR _ (fun (s4 : Int) a w => St M w0 19 [(7,ti (s_.length : Int)),(8,ti s4),(0,tsl rS s_),(1,Qij.ty f_)] [] a w) _ _ he5 (H.pick [0,1,2,3]) ?_
 clear h
 intro s4 o a w K25 hI h ho k25
 have H := hI
 clear hI
 refine sr mx [] H (fun _ => .o (QG z1 z0)<|.n) fun _ a w H => ?_
 have H := H.to [0,1,2,3,4] [_,_,_,_,_] [] rfl rfl
 refine wp_seq_k (fun _ k27 => ?_)
 refine wi H h (fun b33 h => ?_) (fun b33 h => ?_)
 ·refine wp_skip (k27 _ _ ?_)
  refine wp_seq_k (fun _ k28 => ?_)
  refine wp_block ?_
  refine sr mx [] H (fun _ => .q 2 rfl<|.o (Qa z0)<|.n) fun _ a w H => ?_
  have H := H.to [1,3,4,5,6] [_,_,_,_,_] [] rfl rfl
  have ⟨t14,ht14,h⟩ := bs h
  have ⟨t16,ht16,h⟩ := bs h
  refine sr mx [] H (fun _ => .q 4 rfl<|.q 4 rfl<|.q 2 rfl<|.o (Qr ud32 tok9 z1 z0 ht14)<|.o (Qm tok9 z0)<|.o (Qca (u := t14) z4 (.cons (.of z0)<|.nil) ht16)<|.n) fun _ a w H => ?_
  have H := H.to [5,6,7,8,9,10] [_,_,_,_,_,_] [] rfl rfl
  refine wi H h (fun b32 h => ?_) (fun b32 h => ?_)
  ·refine sr mx [] H (fun _ => .q 1 rfl<|.o (Qa z0)<|.n) fun _ a w H => ?_
   have H := H.to [1] [_] [] rfl rfl
   refine wp_ret ?_
   exact hJp23 _ _ _ (ho _ (sj h).symm) (H.pick [0])
  refine wp_skip (k28 _ _ ?_)
  refine wr mx [] H (fun _ => .o (QQ z3 .k)<|.q 0 rfl<|.n) fun _ a w H => ?_
  have H := H.to [1,4,5,6] [_,_,_,_] [] rfl rfl
  exact k25 _ _ _ (sj h).symm (H.pick [1,0,2,3])
 refine wp_exit ?_
 exact hJp22 _ _ _ (ho _ (sj h).symm) (H.pick [])

/- slices.ContainsFunc[[]string,string] -/
noncomputable def QaR (s_ : (List Str)) (f_ : (Str → Option Bool)) : Option (Bool) := (Qa9 s_ f_).bind fun t7 => (some (decide (t7 ≥ (0:Int))))
theorem QiM {s_ : (List Str)} {f_ : (Str → Option Bool)} {r : Bool} (h : QaR s_ f_ = some r) : FnOk Tryz.prog 159 [tsl rS s_,Qij.ty f_] [] (fun _ => []) (fun _ => tb r) := by
 unfold QaR at h
 refine fe Tryz.func159 Tryz.ntmps159 fun M0 M w0 a hpl H => ?_
 replace H : St M w0 9 [(0,tsl rS s_),(1,Qij.ty f_)] [] a w0 := H
 refine sr mx [] H (fun _ => .o (Qa .k)<|.n) fun _ a w H => ?_
 have H := H.to [1,2] [_,_] [] rfl rfl
 have ⟨t7,ht7,h⟩ := bs h
 refine sr mx [] H (fun _ => .q 0 rfl<|.q 2 rfl<|.o (Qf QuE (QjL ht7) (.cons (.of z1)<|.cons (.of z0)<|.nil))<|.o (QaJ z0 .k)<|.o (Qa z0)<|.n) fun _ a w H => ?_
 have H := H.to [4] [_] [] rfl rfl
 refine wp_ret ?_
 obtain rfl := sj h
 exact rt undef [] hpl H (.tmp z0 .nil)

/- diorama/schema.all[string] -/
noncomputable def QbC (l_ : (List Str)) (right_ : (Str → Option Bool)) : Option (Bool) := (QaR l_ (fun x0 => QcZ x0 right_)).bind fun t7 => (some (!t7))
theorem Qiq {l_ : (List Str)} {right_ : (Str → Option Bool)} {r : Bool} (h : QbC l_ right_ = some r) : FnOk Tryz.prog 130 [tsl rS l_,Qij.ty right_] [] (fun _ => []) (fun _ => tb r) := by
 unfold QbC at h
 refine fe Tryz.func130 Tryz.ntmps130 fun M0 M w0 a hpl H => ?_
 replace H : St M w0 9 [(0,tsl rS l_),(1,Qij.ty right_)] [] a w0 := H
 refine sr mx [] H (fun _ => .o (QV (R := Qij) (u := right_) z1)<|.o (Qa .k)<|.n) fun _ a w H => ?_
 have H := H.to [0,2] [_,_] [] rfl rfl
 have ⟨t7,ht7,h⟩ := bs h
 refine sr mx [] H (fun _ => .q 1 rfl<|.o (QdX (.cons z1<|.nil))<|.o (Qf Qut (QiM ht7) (.cons (.of z1)<|.cons (.of (Fct.weak z0 (Qb7 Quu (fun _ _ hq => QkT hq))))<|.nil))<|.o (Qae z0)<|.o (Qa z0)<|.n) fun _ a w H => ?_
 have H := H.to [4] [_] [] rfl rfl
 refine wp_ret ?_
 obtain rfl := sj h
 exact rt undef [] hpl H (.tmp z0 .nil)

/- diorama/schema.isPick -/
noncomputable def Qb4 (words_ : (List Str)) (weights_ : (List Int)) : Option (Bool) := (QF (fun (s5 : Int × Int) => ((if (decide (s5.1 < (weights_.length : Int))) = true then (idx weights_ s5.1).bind fun t12 => (QaW t12 (0:Int) (1048576:Int)).bind fun t15 => (if (!t15) = true then (some (.inr (.inr false))) else (some (.inl ((IntKind.i64.wrap (s5.1 + (1:Int))),(IntKind.i64.wrap (s5.2 + t12)))))) else (some (.inr (.inl s5.2)))) : Option ((Int × Int) ⊕ ((Int) ⊕ (Bool))))) ((0:Int),(0:Int))).bind fun (e6 : (Int) ⊕ (Bool)) => (match e6 with | .inl p25 => (QaW (words_.length : Int) (1:Int) (12:Int)).bind fun t23 => (opt (((t23 && ((words_.length : Int) == (weights_.length : Int))) && (decide (p25 > (0:Int)))) == true) (QbC words_ (fun x0 => Qap x0)) default).bind fun t37 => (some (((t23 && ((words_.length : Int) == (weights_.length : Int))) && (decide (p25 > (0:Int)))) && t37)) | .inr p26 => (some p26))
theorem Qnj {words_ : (List Str)} {weights_ : (List Int)} {r : Bool} (h : Qb4 words_ weights_ = some r) : FnOk Tryz.prog 158 [tsl rS words_,tsl rI weights_] [] (fun _ => []) (fun _ => tb r) := by
 unfold Qb4 at h
 refine fe Tryz.func158 Tryz.ntmps158 fun M0 M w0 a hpl H => ?_
 replace H : St M w0 39 [(0,tsl rS words_),(1,tsl rI weights_)] [] a w0 := H
 refine sr mx [] H (fun _ => .o (Qa .k)<|.n) fun _ a w H => ?_
 have H := H.to [1,2] [_,_] [] rfl rfl
 refine sr mx [] H (fun _ => .o (Qa .k)<|.n) fun _ a w H => ?_
 have H := H.to [0,1,2] [_,_,_] [] rfl rfl
 refine wp_seq_k (fun K3 k3 => ?_)
 refine sr mx [] H (fun _ => .q 2 rfl<|.o (QE ud22 z0)<|.o (Qq .k)<|.n) fun _ a w H => ?_
 have H := H.to [0,1,2,3,4,5] [_,_,_,_,_,_] [] rfl rfl
 have ⟨e6,he6,h⟩ := bs h
 have hJp25 : ∀ (p25 : Int) a w,(.inl p25) = e6 → St M w0 39 [(5,ti p25),(0,tsl rS words_),(1,tsl rI weights_)] [] a w → K3 a w := by
  intro p25 a w he H
  subst he
  simp only at h
  refine k3 _ _ ?_
  have ⟨t23,ht23,h⟩ := bs h
  have ⟨t37,ht37,h⟩ := bs h
  refine sr mx [] H (fun _ => .q 1 rfl<|.o (QE ud32 z0)<|.o (Qf Qim (QbD ht23) (.cons (.of z0)<|.cons (.of .k)<|.cons (.of .k)<|.nil))<|.q 0 rfl<|.g rfl rfl bq0 (fun _ => Qq z5)<|.g rfl rfl bq1 (fun hc => QE ud32 (.cond z0 hc))<|.g rfl rfl bq2 (fun _ => Qq z8)<|.g rfl rfl bq3 (fun hc => QE ud22 (.cond z0 hc))<|.g rfl rfl bq4 (fun hc => QM (.cond z2 hc) (.cond z0 hc))<|.o (QW z5 (fun hp => (.cond z0 (beqT hp))))<|.q 0 rfl<|.g rfl rfl bq0 (fun _ => Qq z11)<|.g rfl rfl bq1 (fun hc => Qa0 (.cond z0 hc) .k)<|.o (QW z2 (fun hp => (.cond z0 (beqT hp))))<|.q 0 rfl<|.g rfl rfl bq0 (fun _ => Qq z16)<|.g rfl rfl bq1 (fun hc => Qf QqQ (Qiq (Qaj ht37 hc)) (.cons (.of (.cond z0 hc))<|.cons (.of (Fct.weak .fnE (Qb7 QcN (fun _ _ hq => Qay hq))))<|.nil))<|.o (QW z2 (fun hp => (.cond z0 (beqT hp))))<|.o (Qa z0)<|.n) fun _ a w H => ?_
  have H := H.to [18] [_] [] rfl rfl
  refine wp_ret ?_
  obtain rfl := sj h
  exact rt undef [] hpl H (.tmp z0 .nil)
 have hJp26 : ∀ (p26 : Bool) a w,(.inr p26) = e6 → St M w0 39 [(4,tb p26)] [] a w → Ret Tryz.prog Tryz.f158 M0 [] w0 (fun _ => []) (fun _ => tb r) .ret a w := by
  intro p26 a w he H
  subst he
  simp only at h
  obtain rfl := sj h
  exact rt undef [] hpl H (.tmp z0 .nil)
 refine wp_block ?_
 refine QR _ (fun (s5 : Int × Int) a w => St M w0 39 [(8,tsl rI weights_),(9,ti (weights_.length : Int)),(10,ti s5.1),(5,ti s5.2),(0,tsl rS words_),(1,tsl rI weights_)] [] a w) _ _ he6 (H.pick [0,1,2,3,4,5]) ?_
 clear h
 intro s5 o a w K28 hI h ho k28
 have H := hI
 clear hI
 refine sr mx [] H (fun _ => .o (QG z2 z1)<|.n) fun _ a w H => ?_
 have H := H.to [0,1,2,3,4,5,6] [_,_,_,_,_,_,_] [] rfl rfl
 refine wp_seq_k (fun _ k30 => ?_)
 refine wi H h (fun b37 h => ?_) (fun b37 h => ?_)
 ·refine wp_skip (k30 _ _ ?_)
  refine wp_seq_k (fun _ k31 => ?_)
  refine wp_block ?_
  have ⟨t12,ht12,h⟩ := bs h
  refine sr mx [] H (fun _ => .o (Qr ud22 tok3 z1 z3 ht12)<|.o (Qm tok3 z0)<|.o (Qa z0)<|.n) fun _ a w H => ?_
  have H := H.to [2,4,5,6,7,8,9] [_,_,_,_,_,_,_] [] rfl rfl
  refine wp_seq_k (fun _ k33 => ?_)
  have ⟨t15,ht15,h⟩ := bs h
  refine sr mx [] H (fun _ => .q 0 rfl<|.o (Qf Qim (QbD ht15) (.cons (.of z0)<|.cons (.of .k)<|.cons (.of .k)<|.nil))<|.o (Qae z0)<|.n) fun _ a w H => ?_
  have H := H.to [2,3,4,5,6,7,8,9] [_,_,_,_,_,_,_,_] [] rfl rfl
  refine wi H h (fun b36 h => ?_) (fun b36 h => ?_)
  ·refine sr mx [] H (fun _ => .o (Qa .k)<|.n) fun _ a w H => ?_
   have H := H.to [0] [_] [] rfl rfl
   refine wp_ret ?_
   exact hJp26 _ _ _ (ho _ (sj h).symm) (H.pick [0])
  refine wp_skip (k33 _ _ ?_)
  refine wr mx [] H (fun _ => .q 5 rfl<|.q 2 rfl<|.o (QQ z1 z0)<|.o (Qa z0)<|.n) fun _ a w H => ?_
  have H := H.to [3,6,7,8,9,10] [_,_,_,_,_,_] [] rfl rfl
  refine k31 _ _ ?_
  refine wr mx [] H (fun _ => .o (QQ z3 .k)<|.q 0 rfl<|.n) fun _ a w H => ?_
  have H := H.to [1,2,3,4,5,6] [_,_,_,_,_,_] [] rfl rfl
  exact k28 _ _ _ (sj h).symm (H.pick [2,3,0,1,4,5])
 refine wp_exit ?_
 exact hJp25 _ _ _ (ho _ (sj h).symm) (H.pick [4,5,6])

/- diorama/schema.isField -/
noncomputable def Qc0 (f_ : Qc) : Option (Bool) := (Qap (f_).Name).bind fun t5 => (opt ((!t5) == false) (Qer f_) default).bind fun t10 => (opt ((!t5) == false) (Qce f_ t10) default).bind fun t11 => (if ((!t5) || (!t11)) = true then (some false) else (if ((f_).Kind == (0:Int)) = true then (QaW (f_).Lo (-1048576:Int) (1048576:Int)).bind fun t20 => (some t20) else (if ((f_).Kind == (1:Int)) = true then (Qap (f_).Of).bind fun t25 => (opt (t25 == true) (Qcs (f_).Lo (f_).Hi (0:Int) (65536:Int)) default).bind fun t31 => (some (t25 && t31)) else (if ((f_).Kind == (2:Int)) = true then (Qcs (f_).Lo (f_).Hi (-1048576:Int) (1048576:Int)).bind fun t39 => (some t39) else (if ((f_).Kind == (3:Int)) = true then (Qb4 (f_).Words (f_).Weights).bind fun t46 => (some t46) else (if ((f_).Kind == (4:Int)) = true then (opt (((f_).Of == ([] : Str)) == false) (Qap (f_).Of) default).bind fun t55 => (opt ((((f_).Of == ([] : Str)) || t55) == true) (Qcs (f_).Lo (f_).Hi (-1048576:Int) (1048576:Int)) default).bind fun t62 => (some ((((f_).Of == ([] : Str)) || t55) && t62)) else (if ((f_).Kind == (5:Int)) = true then (Qap (f_).Of).bind fun t68 => (opt (t68 == true) (Qcs (f_).Lo (f_).Hi (0:Int) (32:Int)) default).bind fun t74 => (some (t68 && t74)) else (if ((f_).Kind == (6:Int)) = true then (Qap (f_).Of).bind fun t80 => (some t80) else (if ((f_).Kind == (7:Int)) = true then (Qap (f_).Of).bind fun t85 => (opt (t85 == true) (Qap (f_).Up) default).bind fun t89 => (opt ((t85 && t89) == true) (Qcs (f_).Lo (f_).Hi (0:Int) (1048576:Int)) default).bind fun t96 => (some ((t85 && t89) && t96)) else (if ((f_).Kind == (8:Int)) = true then (Qap (f_).Of).bind fun t102 => (opt (t102 == true) (Qap (f_).Up) default).bind fun t106 => (some (t102 && t106)) else (some false)))))))))))
theorem Qm4 {f_ : Qc} {r : Bool} (h : Qc0 f_ = some r) : FnOk Tryz.prog 128 [Qb.ty f_] [] (fun _ => []) (fun _ => tb r) := by
 unfold Qc0 at h
 refine fe Tryz.func128 Tryz.ntmps128 fun M0 M w0 a hpl H => ?_
 replace H : St M w0 108 [(0,Qb.ty f_)] [] a w0 := H
 refine sr mx [] H (fun _ => .o (QV (R := Qb) (u := f_) z0)<|.o (Qa .k)<|.n) fun _ a w H => ?_
 have H := H.to [0] [_] [] rfl rfl
 refine wp_seq_k (fun _ k2 => ?_)
 have ⟨t5,ht5,h⟩ := bs h
 have ⟨t10,ht10,h⟩ := bs h
 have ⟨t11,ht11,h⟩ := bs h
 refine sr mx [] H (fun _ => .o (Qe Qbd z0)<|.o (Qd (u := (f_).Name) tok9 z0 rfl)<|.o (Qf QcN (Qay ht5) (.cons (.of z0)<|.nil))<|.o (Qae z0)<|.q 0 rfl<|.g rfl rfl bq0 (fun _ => Qm QI z5)<|.g rfl rfl bq1 (fun _ => Qm QI z6)<|.g rfl rfl bq2 (fun hc => Qf Qur (QoH (Qaj ht10 hc)) (.cons (.of (.cond z0 hc))<|.nil))<|.g rfl rfl bq3 (fun hc => Qf Quq (Ql5 (Qaj ht11 hc)) (.cons (.of (.cond z2 hc))<|.cons (.of (.cond z0 hc))<|.nil))<|.g rfl rfl bq4 (fun hc => Qae (.cond z0 hc))<|.o (Q6 z5 (fun hp => (.cond z0 (beqF hp))))<|.n) fun _ a w H => ?_
 have H := H.to [10,11] [_,_] [] rfl rfl
 refine wi H h (fun b35 h => ?_) (fun b35 h => ?_)
 ·refine sr mx [] H (fun _ => .o (Qa .k)<|.n) fun _ a w H => ?_
  have H := H.to [0] [_] [] rfl rfl
  refine wp_ret ?_
  obtain rfl := sj h
  exact rt undef [] hpl H (.tmp z0 .nil)
 refine wp_skip (k2 _ _ ?_)
 refine wp_seq_k (fun _ k5 => ?_)
 refine sr mx [] H (fun _ => .o (Qe Qao z1)<|.o (Qd (u := (f_).Kind) tok3 z0 rfl)<|.n) fun _ a w H => ?_
 have H := H.to [1,3] [_,_] [] rfl rfl
 refine wp_block ?_
 refine sr mx [] H (fun _ => .o (QM z0 .k)<|.o (Qa z0)<|.n) fun _ a w H => ?_
 have H := H.to [1,2,3] [_,_,_] [] rfl rfl
 refine wi H h (fun b34 h => ?_) (fun b34 h => ?_)
 ·have ⟨t20,ht20,h⟩ := bs h
  refine sr mx [] H (fun _ => .o (Qe QaE z2)<|.o (Qd (u := (f_).Lo) tok3 z0 rfl)<|.o (Qf Qim (QbD ht20) (.cons (.of z0)<|.cons (.of .k)<|.cons (.of .k)<|.nil))<|.o (Qa z0)<|.n) fun _ a w H => ?_
  have H := H.to [3] [_] [] rfl rfl
  refine wp_ret ?_
  obtain rfl := sj h
  exact rt undef [] hpl H (.tmp z0 .nil)
 refine sr mx [] H (fun _ => .o (QM z1 .k)<|.o (Qa z0)<|.n) fun _ a w H => ?_
 have H := H.to [1,3,4] [_,_,_] [] rfl rfl
 refine wi H h (fun b33 h => ?_) (fun b33 h => ?_)
 ·have ⟨t25,ht25,h⟩ := bs h
  have ⟨t31,ht31,h⟩ := bs h
  refine sr mx [] H (fun _ => .o (Qe Qas z2)<|.o (Qd (u := (f_).Of) tok9 z0 rfl)<|.o (Qf QcN (Qay ht25) (.cons (.of z0)<|.nil))<|.q 0 rfl<|.g rfl rfl bq0 (fun _ => Qe QaE z6)<|.g rfl rfl bq1 (fun hc => Qd (u := (f_).Lo) tok3 (.cond z0 hc) rfl)<|.g rfl rfl bq2 (fun _ => Qe QaV z8)<|.g rfl rfl bq3 (fun hc => Qd (u := (f_).Hi) tok3 (.cond z0 hc) rfl)<|.g rfl rfl bq4 (fun hc => Qf Qkd (Qee (Qaj ht31 hc)) (.cons (.of (.cond z2 hc))<|.cons (.of (.cond z0 hc))<|.cons (.of .k)<|.cons (.of .k)<|.nil))<|.o (QW z5 (fun hp => (.cond z0 (beqT hp))))<|.o (Qa z0)<|.n) fun _ a w H => ?_
  have H := H.to [10] [_] [] rfl rfl
  refine wp_ret ?_
  obtain rfl := sj h
  exact rt undef [] hpl H (.tmp z0 .nil)
 refine sr mx [] H (fun _ => .o (QM z1 .k)<|.o (Qa z0)<|.n) fun _ a w H => ?_
 have H := H.to [1,3,4] [_,_,_] [] rfl rfl
 refine wi H h (fun b32 h => ?_) (fun b32 h => ?_)
 ·have ⟨t39,ht39,h⟩ := bs h
  refine sr mx [] H (fun _ => .o (Qe QaE z2)<|.o (Qd (u := (f_).Lo) tok3 z0 rfl)<|.o (Qe QaV z4)<|.o (Qd (u := (f_).Hi) tok3 z0 rfl)<|.o (Qf Qkd (Qee ht39) (.cons (.of z2)<|.cons (.of z0)<|.cons (.of .k)<|.cons (.of .k)<|.nil))<|.o (Qa z0)<|.n) fun _ a w H => ?_
  have H := H.to [5] [_] [] rfl rfl
  refine wp_ret ?_
  obtain rfl := sj h
  exact rt undef [] hpl H (.tmp z0 .nil)
 refine sr mx [] H (fun _ => .o (QM z1 .k)<|.o (Qa z0)<|.n) fun _ a w H => ?_
 have H := H.to [1,3,4] [_,_,_] [] rfl rfl
 refine wi H h (fun b31 h => ?_) (fun b31 h => ?_)
 ·have ⟨t46,ht46,h⟩ := bs h
  refine sr mx [] H (fun _ => .o (Qe QcM z2)<|.o (Qd (u := (f_).Words) Qbx z0 rfl)<|.o (Qe Qcl z4)<|.o (Qd (u := (f_).Weights) Qdc z0 rfl)<|.o (Qf Qus (Qnj ht46) (.cons (.of z2)<|.cons (.of z0)<|.nil))<|.o (Qa z0)<|.n) fun _ a w H => ?_
  have H := H.to [5] [_] [] rfl rfl
  refine wp_ret ?_
  obtain rfl := sj h
  exact rt undef [] hpl H (.tmp z0 .nil)
 refine sr mx [] H (fun _ => .o (QM z1 .k)<|.o (Qa z0)<|.n) fun _ a w H => ?_
 have H := H.to [1,3,4] [_,_,_] [] rfl rfl
 refine wi H h (fun b30 h => ?_) (fun b30 h => ?_)
 ·have ⟨t55,ht55,h⟩ := bs h
  have ⟨t62,ht62,h⟩ := bs h
  refine sr mx [] H (fun _ => .o (Qe Qas z2)<|.o (Qd (u := (f_).Of) tok9 z0 rfl)<|.o (Qa6 z0 .k)<|.q 0 rfl<|.g rfl rfl bq0 (fun _ => Qe Qas z6)<|.g rfl rfl bq1 (fun hc => Qd (u := (f_).Of) tok9 (.cond z0 hc) rfl)<|.g rfl rfl bq2 (fun hc => Qf QcN (Qay (Qaj ht55 hc)) (.cons (.of (.cond z0 hc))<|.nil))<|.o (Q6 z3 (fun hp => (.cond z0 (beqF hp))))<|.q 0 rfl<|.g rfl rfl bq0 (fun _ => Qe QaE z11)<|.g rfl rfl bq1 (fun hc => Qd (u := (f_).Lo) tok3 (.cond z0 hc) rfl)<|.g rfl rfl bq2 (fun _ => Qe QaV z13)<|.g rfl rfl bq3 (fun hc => Qd (u := (f_).Hi) tok3 (.cond z0 hc) rfl)<|.g rfl rfl bq4 (fun hc => Qf Qkd (Qee (Qaj ht62 hc)) (.cons (.of (.cond z2 hc))<|.cons (.of (.cond z0 hc))<|.cons (.of .k)<|.cons (.of .k)<|.nil))<|.o (QW z5 (fun hp => (.cond z0 (beqT hp))))<|.o (Qa z0)<|.n) fun _ a w H => ?_
  have H := H.to [15] [_] [] rfl rfl
  refine wp_ret ?_
  obtain rfl := sj h
  exact rt undef [] hpl H (.tmp z0 .nil)
 refine sr mx [] H (fun _ => .o (QM z1 .k)<|.o (Qa z0)<|.n) fun _ a w H => ?_
 have H := H.to [1,3,4] [_,_,_] [] rfl rfl
 refine wi H h (fun b29 h => ?_) (fun b29 h => ?_)
 ·have ⟨t68,ht68,h⟩ := bs h
  have ⟨t74,ht74,h⟩ := bs h
  refine sr mx [] H (fun _ => .o (Qe Qas z2)<|.o (Qd (u := (f_).Of) tok9 z0 rfl)<|.o (Qf QcN (Qay ht68) (.cons (.of z0)<|.nil))<|.q 0 rfl<|.g rfl rfl bq0 (fun _ => Qe QaE z6)<|.g rfl rfl bq1 (fun hc => Qd (u := (f_).Lo) tok3 (.cond z0 hc) rfl)<|.g rfl rfl bq2 (fun _ => Qe QaV z8)<|.g rfl rfl bq3 (fun hc => Qd (u := (f_).Hi) tok3 (.cond z0 hc) rfl)<|.g rfl rfl bq4 (fun hc => Qf Qkd (Qee (Qaj ht74 hc)) (.cons (.of (.cond z2 hc))<|.cons (.of (.cond z0 hc))<|.cons (.of .k)<|.cons (.of .k)<|.nil))<|.o (QW z5 (fun hp => (.cond z0 (beqT hp))))<|.o (Qa z0)<|.n) fun _ a w H => ?_
  have H := H.to [10] [_] [] rfl rfl
  refine wp_ret ?_
  obtain rfl := sj h
  exact rt undef [] hpl H (.tmp z0 .nil)
 refine sr mx [] H (fun _ => .o (QM z1 .k)<|.o (Qa z0)<|.n) fun _ a w H => ?_
 have H := H.to [1,3,4] [_,_,_] [] rfl rfl
 refine wi H h (fun b28 h => ?_) (fun b28 h => ?_)
 ·have ⟨t80,ht80,h⟩ := bs h
  refine sr mx [] H (fun _ => .o (Qe Qas z2)<|.o (Qd (u := (f_).Of) tok9 z0 rfl)<|.o (Qf QcN (Qay ht80) (.cons (.of z0)<|.nil))<|.o (Qa z0)<|.n) fun _ a w H => ?_
  have H := H.to [3] [_] [] rfl rfl
  refine wp_ret ?_
  obtain rfl := sj h
  exact rt undef [] hpl H (.tmp z0 .nil)
 refine sr mx [] H (fun _ => .o (QM z1 .k)<|.o (Qa z0)<|.n) fun _ a w H => ?_
 have H := H.to [1,3,4] [_,_,_] [] rfl rfl
 refine wi H h (fun b27 h => ?_) (fun b27 h => ?_)
 ·have ⟨t85,ht85,h⟩ := bs h
  have ⟨t89,ht89,h⟩ := bs h
  have ⟨t96,ht96,h⟩ := bs h
  refine sr mx [] H (fun _ => .o (Qe Qas z2)<|.o (Qd (u := (f_).Of) tok9 z0 rfl)<|.o (Qf QcN (Qay ht85) (.cons (.of z0)<|.nil))<|.q 0 rfl<|.g rfl rfl bq0 (fun _ => Qe Qda z6)<|.g rfl rfl bq1 (fun hc => Qd (u := (f_).Up) tok9 (.cond z0 hc) rfl)<|.g rfl rfl bq2 (fun hc => Qf QcN (Qay (Qaj ht89 hc)) (.cons (.of (.cond z0 hc))<|.nil))<|.o (QW z3 (fun hp => (.cond z0 (beqT hp))))<|.q 0 rfl<|.g rfl rfl bq0 (fun _ => Qe QaE z11)<|.g rfl rfl bq1 (fun hc => Qd (u := (f_).Lo) tok3 (.cond z0 hc) rfl)<|.g rfl rfl bq2 (fun _ => Qe QaV z13)<|.g rfl rfl bq3 (fun hc => Qd (u := (f_).Hi) tok3 (.cond z0 hc) rfl)<|.g rfl rfl bq4 (fun hc => Qf Qkd (Qee (Qaj ht96 hc)) (.cons (.of (.cond z2 hc))<|.cons (.of (.cond z0 hc))<|.cons (.of .k)<|.cons (.of .k)<|.nil))<|.o (QW z5 (fun hp => (.cond z0 (beqT hp))))<|.o (Qa z0)<|.n) fun _ a w H => ?_
  have H := H.to [15] [_] [] rfl rfl
  refine wp_ret ?_
  obtain rfl := sj h
  exact rt undef [] hpl H (.tmp z0 .nil)
 refine sr mx [] H (fun _ => .o (QM z1 .k)<|.o (Qa z0)<|.n) fun _ a w H => ?_
 have H := H.to [1,4] [_,_] [] rfl rfl
 refine wi H h (fun b26 h => ?_) (fun b26 h => ?_)
 ·have ⟨t102,ht102,h⟩ := bs h
  have ⟨t106,ht106,h⟩ := bs h
  refine sr mx [] H (fun _ => .o (Qe Qas z1)<|.o (Qd (u := (f_).Of) tok9 z0 rfl)<|.o (Qf QcN (Qay ht102) (.cons (.of z0)<|.nil))<|.q 0 rfl<|.g rfl rfl bq0 (fun _ => Qe Qda z5)<|.g rfl rfl bq1 (fun hc => Qd (u := (f_).Up) tok9 (.cond z0 hc) rfl)<|.g rfl rfl bq2 (fun hc => Qf QcN (Qay (Qaj ht106 hc)) (.cons (.of (.cond z0 hc))<|.nil))<|.o (QW z3 (fun hp => (.cond z0 (beqT hp))))<|.o (Qa z0)<|.n) fun _ a w H => ?_
  have H := H.to [8] [_] [] rfl rfl
  refine wp_ret ?_
  obtain rfl := sj h
  exact rt undef [] hpl H (.tmp z0 .nil)
 refine wp_skip (k5 _ _ ?_)
 refine sr mx [] H (fun _ => .o (Qa .k)<|.n) fun _ a w H => ?_
 have H := H.to [0] [_] [] rfl rfl
 refine wp_ret ?_
 obtain rfl := sj h
 exact rt undef [] hpl H (.tmp z0 .nil)

/- diorama/schema.isKind -/
noncomputable def Qdl (k_ : Qj) : Option (Bool) := (Qap (k_).Name).bind fun t5 => (opt (t5 == true) (Qcs (k_).Lo (k_).Hi (0:Int) (65536:Int)) default).bind fun t11 => (opt (((t5 && t11) && (decide (((k_).Fields.length : Int) ≤ (10:Int)))) == true) (Qcc (k_).Fields (fun x0 => Qc0 x0)) default).bind fun t22 => (some (((t5 && t11) && (decide (((k_).Fields.length : Int) ≤ (10:Int)))) && t22))
theorem Qnk {k_ : Qj} {r : Bool} (h : Qdl k_ = some r) : FnOk Tryz.prog 99 [Qk.ty k_] [] (fun _ => []) (fun _ => tb r) := by
 unfold Qdl at h
 refine fe Tryz.func99 Tryz.ntmps99 fun M0 M w0 a hpl H => ?_
 replace H : St M w0 24 [(0,Qk.ty k_)] [] a w0 := H
 refine sr mx [] H (fun _ => .o (QV (R := Qk) (u := k_) z0)<|.o (Qa .k)<|.n) fun _ a w H => ?_
 have H := H.to [0] [_] [] rfl rfl
 have ⟨t5,ht5,h⟩ := bs h
 have ⟨t11,ht11,h⟩ := bs h
 have ⟨t22,ht22,h⟩ := bs h
 refine sr mx [] H (fun _ => .o (Qe Qbo z0)<|.o (Qd (u := (k_).Name) tok9 z0 rfl)<|.o (Qf QcN (Qay ht5) (.cons (.of z0)<|.nil))<|.q 0 rfl<|.g rfl rfl bq0 (fun _ => Qe QhZ z4)<|.g rfl rfl bq1 (fun hc => Qd (u := (k_).Lo) tok3 (.cond z0 hc) rfl)<|.g rfl rfl bq2 (fun _ => Qe Qh0 z6)<|.g rfl rfl bq3 (fun hc => Qd (u := (k_).Hi) tok3 (.cond z0 hc) rfl)<|.g rfl rfl bq4 (fun hc => Qf Qkd (Qee (Qaj ht11 hc)) (.cons (.of (.cond z2 hc))<|.cons (.of (.cond z0 hc))<|.cons (.of .k)<|.cons (.of .k)<|.nil))<|.o (QW z5 (fun hp => (.cond z0 (beqT hp))))<|.q 0 rfl<|.g rfl rfl bq0 (fun _ => Qe Qaf z11)<|.g rfl rfl bq1 (fun hc => Qd (u := (k_).Fields) QaK (.cond z0 hc) rfl)<|.g rfl rfl bq2 (fun hc => QE ud53 (.cond z0 hc))<|.g rfl rfl bq3 (fun hc => QcK (.cond z0 hc) .k)<|.o (QW z4 (fun hp => (.cond z0 (beqT hp))))<|.q 0 rfl<|.g rfl rfl bq0 (fun _ => Qe Qaf z17)<|.g rfl rfl bq1 (fun hc => Qd (u := (k_).Fields) QaK (.cond z0 hc) rfl)<|.g rfl rfl bq2 (fun hc => Qf Qt9 (Ql3 (Qaj ht22 hc)) (.cons (.of (.cond z0 hc))<|.cons (.of (Fct.weak .fnE (Qb7 Qua (fun _ _ hq => Qm4 hq))))<|.nil))<|.o (QW z3 (fun hp => (.cond z0 (beqT hp))))<|.o (Qa z0)<|.n) fun _ a w H => ?_
 have H := H.to [21] [_] [] rfl rfl
 refine wp_ret ?_
 obtain rfl := sj h
 exact rt undef [] hpl H (.tmp z0 .nil)

/- diorama/schema.all[diorama/api.Life]$1 -/
noncomputable def Qdy (x_ : Qo) (c0_ : (Qo → Option Bool)) : Option (Bool) := (c0_ x_).bind fun t6 => (some (!t6))
theorem QlI {x_ : Qo} {c0_ : (Qo → Option Bool)} {r : Bool} (h : Qdy x_ c0_ = some r) : FnOk Tryz.prog 129 [Qz.ty x_,tptr (Qif.cs c0_)] [] (fun _ => []) (fun _ => tb r) := by
 unfold Qdy at h
 refine fe Tryz.func129 Tryz.ntmps129 fun M0 M w0 a hpl H => ?_
 replace H : St M w0 8 [(0,Qz.ty x_),(1,tptr (Qif.cs c0_))] [] a w0 := H
 refine sr mx [] H (fun _ => .o (QV (R := Qz) (u := x_) z0)<|.o (Qa .k)<|.n) fun _ a w H => ?_
 have H := H.to [0,3] [_,_] [] rfl rfl
 have ⟨t6,ht6,h⟩ := bs h
 refine sr mx [] H (fun _ => .o (Qm tok122 z1)<|.o (Qm Qby z1)<|.o (Qca (u := x_) z1 (.cons (.of z0)<|.nil) ht6)<|.o (Qae z0)<|.o (Qa z0)<|.n) fun _ a w H => ?_
 have H := H.to [4] [_] [] rfl rfl
 refine wp_ret ?_
 obtain rfl := sj h
 exact rt undef [] hpl H (.tmp z0 .nil)

/- slices.IndexFunc[[]diorama/api.Life,diorama/api.Life] -/
noncomputable def Qbl (s_ : (List Qo)) (f_ : (Qo → Option Bool)) : Option (Int) := (QF (fun (s4 : Int) => ((if (decide (s4 < (s_.length : Int))) = true then (idx s_ s4).bind fun t14 => (f_ t14).bind fun t16 => (if t16 = true then (some (.inr (.inr s4))) else (some (.inl (IntKind.i64.wrap (s4 + (1:Int)))))) else (some (.inr (.inl ())))) : Option ((Int) ⊕ ((Unit) ⊕ (Int))))) (0:Int)).bind fun (e5 : (Unit) ⊕ (Int)) => (match e5 with | .inl _ => (some (-1:Int)) | .inr p23 => (some p23))
theorem Qko {s_ : (List Qo)} {f_ : (Qo → Option Bool)} {r : Int} (h : Qbl s_ f_ = some r) : FnOk Tryz.prog 105 [tsl Qz s_,Qif.ty f_] [] (fun _ => []) (fun _ => ti r) := by
 unfold Qbl at h
 refine fe Tryz.func105 Tryz.ntmps105 fun M0 M w0 a hpl H => ?_
 replace H : St M w0 19 [(0,tsl Qz s_),(1,Qif.ty f_)] [] a w0 := H
 refine sr mx [] H (fun _ => .o (Qa .k)<|.n) fun _ a w H => ?_
 have H := H.to [1,2] [_,_] [] rfl rfl
 refine wp_seq_k (fun K2 k2 => ?_)
 refine sr mx [] H (fun _ => .q 0 rfl<|.o (QE ud24 z0)<|.o (Qq .k)<|.n) fun _ a w H => ?_
 have H := H.to [1,2,3,4] [_,_,_,_] [] rfl rfl
 have ⟨e5,he5,h⟩ := bs h
 have hJp22 : ∀ (p22 : Unit) a w,(.inl p22) = e5 → St M w0 19 [] [] a w → K2 a w := by
  intro p22 a w he H
  subst he
  simp only at h
  refine k2 _ _ ?_
  refine sr mx [] H (fun _ => .o (Qa .k)<|.n) fun _ a w H => ?_
  have H := H.to [0] [_] [] rfl rfl
  refine wp_ret ?_
  obtain rfl := sj h
  exact rt undef [] hpl H (.tmp z0 .nil)
 have hJp23 : ∀ (p23 : Int) a w,(.inr p23) = e5 → St M w0 19 [(4,ti p23)] [] a w → Ret Tryz.prog Tryz.f105 M0 [] w0 (fun _ => []) (fun _ => ti r) .ret a w := by
  intro p23 a w he H
  subst he
  simp only at h
  obtain rfl := sj h
  exact rt undef [] hpl H (.tmp z0 .nil)
 refine wp_block ?_
 refine QR _ (fun (s4 : Int) a w => St M w0 19 [(7,ti (s_.length : Int)),(8,ti s4),(0,tsl Qz s_),(1,Qif.ty f_)] [] a w) _ _ he5 (H.pick [0,1,2,3]) ?_
 clear h
 intro s4 o a w K25 hI h ho k25
 have H := hI
 clear hI
 refine sr mx [] H (fun _ => .o (QG z1 z0)<|.n) fun _ a w H => ?_
 have H := H.to [0,1,2,3,4] [_,_,_,_,_] [] rfl rfl
 refine wp_seq_k (fun _ k27 => ?_)
 refine wi H h (fun b33 h => ?_) (fun b33 h => ?_)
 ·refine wp_skip (k27 _ _ ?_)
  refine wp_seq_k (fun _ k28 => ?_)
  refine wp_block ?_
  refine sr mx [] H (fun _ => .q 2 rfl<|.o (Qa z0)<|.n) fun _ a w H => ?_
  have H := H.to [1,3,4,5,6] [_,_,_,_,_] [] rfl rfl
  have ⟨t14,ht14,h⟩ := bs h
  have ⟨t16,ht16,h⟩ := bs h
  refine sr mx [] H (fun _ => .q 4 rfl<|.q 4 rfl<|.q 2 rfl<|.o (Qr ud24 Qby z1 z0 ht14)<|.o (Qm Qby z0)<|.o (Qca (u := t14) z4 (.cons (.of z0)<|.nil) ht16)<|.n) fun _ a w H => ?_
  have H := H.to [5,6,7,8,9,10] [_,_,_,_,_,_] [] rfl rfl
  refine wi H h (fun b32 h => ?_) (fun b32 h => ?_)
  ·refine sr mx [] H (fun _ => .q 1 rfl<|.o (Qa z0)<|.n) fun _ a w H => ?_
   have H := H.to [1] [_] [] rfl rfl
   refine wp_ret ?_
   exact hJp23 _ _ _ (ho _ (sj h).symm) (H.pick [0])
  refine wp_skip (k28 _ _ ?_)
  refine wr mx [] H (fun _ => .o (QQ z3 .k)<|.q 0 rfl<|.n) fun _ a w H => ?_
  have H := H.to [1,4,5,6] [_,_,_,_] [] rfl rfl
  exact k25 _ _ _ (sj h).symm (H.pick [1,0,2,3])
 refine wp_exit ?_
 exact hJp22 _ _ _ (ho _ (sj h).symm) (H.pick [])

/- slices.ContainsFunc[[]diorama/api.Life,diorama/api.Life] -/
noncomputable def QaG (s_ : (List Qo)) (f_ : (Qo → Option Bool)) : Option (Bool) := (Qbl s_ f_).bind fun t7 => (some (decide (t7 ≥ (0:Int))))
theorem Qdz {s_ : (List Qo)} {f_ : (Qo → Option Bool)} {r : Bool} (h : QaG s_ f_ = some r) : FnOk Tryz.prog 64 [tsl Qz s_,Qif.ty f_] [] (fun _ => []) (fun _ => tb r) := by
 unfold QaG at h
 refine fe Tryz.func64 Tryz.ntmps64 fun M0 M w0 a hpl H => ?_
 replace H : St M w0 9 [(0,tsl Qz s_),(1,Qif.ty f_)] [] a w0 := H
 refine sr mx [] H (fun _ => .o (Qa .k)<|.n) fun _ a w H => ?_
 have H := H.to [1,2] [_,_] [] rfl rfl
 have ⟨t7,ht7,h⟩ := bs h
 refine sr mx [] H (fun _ => .q 0 rfl<|.q 2 rfl<|.o (Qf QtV (Qko ht7) (.cons (.of z1)<|.cons (.of z0)<|.nil))<|.o (QaJ z0 .k)<|.o (Qa z0)<|.n) fun _ a w H => ?_
 have H := H.to [4] [_] [] rfl rfl
 refine wp_ret ?_
 obtain rfl := sj h
 exact rt undef [] hpl H (.tmp z0 .nil)

/- diorama/schema.all[diorama/api.Life] -/
noncomputable def QcG (l_ : (List Qo)) (right_ : (Qo → Option Bool)) : Option (Bool) := (QaG l_ (fun x0 => Qdy x0 right_)).bind fun t7 => (some (!t7))
theorem Qmq {l_ : (List Qo)} {right_ : (Qo → Option Bool)} {r : Bool} (h : QcG l_ right_ = some r) : FnOk Tryz.prog 100 [tsl Qz l_,Qif.ty right_] [] (fun _ => []) (fun _ => tb r) := by
 unfold QcG at h
 refine fe Tryz.func100 Tryz.ntmps100 fun M0 M w0 a hpl H => ?_
 replace H : St M w0 9 [(0,tsl Qz l_),(1,Qif.ty right_)] [] a w0 := H
 refine sr mx [] H (fun _ => .o (QV (R := Qif) (u := right_) z1)<|.o (Qa .k)<|.n) fun _ a w H => ?_
 have H := H.to [0,2] [_,_] [] rfl rfl
 have ⟨t7,ht7,h⟩ := bs h
 refine sr mx [] H (fun _ => .q 1 rfl<|.o (QdX (.cons z1<|.nil))<|.o (Qf Qqc (Qdz ht7) (.cons (.of z1)<|.cons (.of (Fct.weak z0 (Qb7 Qub (fun _ _ hq => QlI hq))))<|.nil))<|.o (Qae z0)<|.o (Qa z0)<|.n) fun _ a w H => ?_
 have H := H.to [4] [_] [] rfl rfl
 refine wp_ret ?_
 obtain rfl := sj h
 exact rt undef [] hpl H (.tmp z0 .nil)

/- diorama/schema.isLife$1 -/
noncomputable def QcH (m_ : QT) (c0_ : Int) : Option (Bool) := (QaW (m_).a0 (0:Int) (IntKind.i64.wrap (c0_ - (1:Int)))).bind fun t8 => (opt (t8 == true) (QaW (m_).a1 (0:Int) (IntKind.i64.wrap (c0_ - (1:Int)))) default).bind fun t14 => (some (t8 && t14))
theorem Qmr {m_ : QT} {c0_ : Int} {r : Bool} (h : QcH m_ c0_ = some r) : FnOk Tryz.prog 132 [Qam.ty m_,tptr (rI.cs c0_)] [] (fun _ => []) (fun _ => tb r) := by
 unfold QcH at h
 refine fe Tryz.func132 Tryz.ntmps132 fun M0 M w0 a hpl H => ?_
 replace H : St M w0 16 [(0,Qam.ty m_),(1,tptr (rI.cs c0_))] [] a w0 := H
 refine sr mx [] H (fun _ => .o (QV (R := Qam) (u := m_) z0)<|.o (Qa .k)<|.n) fun _ a w H => ?_
 have H := H.to [0,3] [_,_] [] rfl rfl
 have ⟨t8,ht8,h⟩ := bs h
 have ⟨t14,ht14,h⟩ := bs h
 refine sr mx [] H (fun _ => .o (QhX 0 rfl ud82 tok3 z0 .k (by decide))<|.o (Qd (u := (m_).a0) tok3 z0 rfl)<|.o (Qm tok3 z3)<|.o (QbQ z0 .k)<|.o (Qf Qim (QbD ht8) (.cons (.of z2)<|.cons (.of .k)<|.cons (.of z0)<|.nil))<|.q 0 rfl<|.g rfl rfl bq0 (fun _ => QhX 1 rfl ud82 tok3 z6 .k (by decide))<|.g rfl rfl bq1 (fun hc => Qd (u := (m_).a1) tok3 (.cond z0 hc) rfl)<|.g rfl rfl bq2 (fun _ => Qm tok3 z9)<|.g rfl rfl bq3 (fun hc => QbQ (.cond z0 hc) .k)<|.g rfl rfl bq4 (fun hc => Qf Qim (QbD (Qaj ht14 hc)) (.cons (.of (.cond z2 hc))<|.cons (.of .k)<|.cons (.of (.cond z0 hc))<|.nil))<|.o (QW z5 (fun hp => (.cond z0 (beqT hp))))<|.o (Qa z0)<|.n) fun _ a w H => ?_
 have H := H.to [12] [_] [] rfl rfl
 refine wp_ret ?_
 obtain rfl := sj h
 exact rt undef [] hpl H (.tmp z0 .nil)

/- diorama/schema.all[[2]int]$1 -/
noncomputable def Qc1 (x_ : QT) (c0_ : (QT → Option Bool)) : Option (Bool) := (c0_ x_).bind fun t6 => (some (!t6))
theorem QkU {x_ : QT} {c0_ : (QT → Option Bool)} {r : Bool} (h : Qc1 x_ c0_ = some r) : FnOk Tryz.prog 162 [Qam.ty x_,tptr (Qik.cs c0_)] [] (fun _ => []) (fun _ => tb r) := by
 unfold Qc1 at h
 refine fe Tryz.func162 Tryz.ntmps162 fun M0 M w0 a hpl H => ?_
 replace H : St M w0 8 [(0,Qam.ty x_),(1,tptr (Qik.cs c0_))] [] a w0 := H
 refine sr mx [] H (fun _ => .o (QV (R := Qam) (u := x_) z0)<|.o (Qa .k)<|.n) fun _ a w H => ?_
 have H := H.to [0,3] [_,_] [] rfl rfl
 have ⟨t6,ht6,h⟩ := bs h
 refine sr mx [] H (fun _ => .o (Qm tok183 z1)<|.o (Qm Qds z1)<|.o (Qca (u := x_) z1 (.cons (.of z0)<|.nil) ht6)<|.o (Qae z0)<|.o (Qa z0)<|.n) fun _ a w H => ?_
 have H := H.to [4] [_] [] rfl rfl
 refine wp_ret ?_
 obtain rfl := sj h
 exact rt undef [] hpl H (.tmp z0 .nil)

/- slices.IndexFunc[[][2]int,[2]int] -/
noncomputable def Qba (s_ : (List QT)) (f_ : (QT → Option Bool)) : Option (Int) := (QF (fun (s4 : Int) => ((if (decide (s4 < (s_.length : Int))) = true then (idx s_ s4).bind fun t14 => (f_ t14).bind fun t16 => (if t16 = true then (some (.inr (.inr s4))) else (some (.inl (IntKind.i64.wrap (s4 + (1:Int)))))) else (some (.inr (.inl ())))) : Option ((Int) ⊕ ((Unit) ⊕ (Int))))) (0:Int)).bind fun (e5 : (Unit) ⊕ (Int)) => (match e5 with | .inl _ => (some (-1:Int)) | .inr p23 => (some p23))
theorem QjM {s_ : (List QT)} {f_ : (QT → Option Bool)} {r : Int} (h : Qba s_ f_ = some r) : FnOk Tryz.prog 177 [tsl Qam s_,Qik.ty f_] [] (fun _ => []) (fun _ => ti r) := by
 unfold Qba at h
 refine fe Tryz.func177 Tryz.ntmps177 fun M0 M w0 a hpl H => ?_
 replace H : St M w0 19 [(0,tsl Qam s_),(1,Qik.ty f_)] [] a w0 := H
 refine sr mx [] H (fun _ => .o (Qa .k)<|.n) fun _ a w H => ?_
 have H := H.to [1,2] [_,_] [] rfl rfl
 refine wp_seq_k (fun K2 k2 => ?_)
 refine sr mx [] H (fun _ => .q 0 rfl<|.o (QE ud79 z0)<|.o (Qq .k)<|.n) fun _ a w H => ?_
 have H := H.to [1,2,3,4] [_,_,_,_] [] rfl rfl
 have ⟨e5,he5,h⟩ := bs h
 have hJp22 : ∀ (p22 : Unit) a w,(.inl p22) = e5 → St M w0 19 [] [] a w → K2 a w := by
  intro p22 a w he H
  subst he
  simp only at h
  refine k2 _ _ ?_
  refine sr mx [] H (fun _ => .o (Qa .k)<|.n) fun _ a w H => ?_
  have H := H.to [0] [_] [] rfl rfl
  refine wp_ret ?_
  obtain rfl := sj h
  exact rt undef [] hpl H (.tmp z0 .nil)
 have hJp23 : ∀ (p23 : Int) a w,(.inr p23) = e5 → St M w0 19 [(4,ti p23)] [] a w → Ret Tryz.prog Tryz.f177 M0 [] w0 (fun _ => []) (fun _ => ti r) .ret a w := by
  intro p23 a w he H
  subst he
  simp only at h
  obtain rfl := sj h
  exact rt undef [] hpl H (.tmp z0 .nil)
 refine wp_block ?_
 refine QR _ (fun (s4 : Int) a w => St M w0 19 [(7,ti (s_.length : Int)),(8,ti s4),(0,tsl Qam s_),(1,Qik.ty f_)] [] a w) _ _ he5 (H.pick [0,1,2,3]) ?_
 clear h
 intro s4 o a w K25 hI h ho k25
 have H := hI
 clear hI
 refine sr mx [] H (fun _ => .o (QG z1 z0)<|.n) fun _ a w H => ?_
 have H := H.to [0,1,2,3,4] [_,_,_,_,_] [] rfl rfl
 refine wp_seq_k (fun _ k27 => ?_)
 refine wi H h (fun b33 h => ?_) (fun b33 h => ?_)
 ·refine wp_skip (k27 _ _ ?_)
  refine wp_seq_k (fun _ k28 => ?_)
  refine wp_block ?_
  refine sr mx [] H (fun _ => .q 2 rfl<|.o (Qa z0)<|.n) fun _ a w H => ?_
  have H := H.to [1,3,4,5,6] [_,_,_,_,_] [] rfl rfl
  have ⟨t14,ht14,h⟩ := bs h
  have ⟨t16,ht16,h⟩ := bs h
  refine sr mx [] H (fun _ => .q 4 rfl<|.q 4 rfl<|.q 2 rfl<|.o (Qr ud79 Qds z1 z0 ht14)<|.o (Qm Qds z0)<|.o (Qca (u := t14) z4 (.cons (.of z0)<|.nil) ht16)<|.n) fun _ a w H => ?_
  have H := H.to [5,6,7,8,9,10] [_,_,_,_,_,_] [] rfl rfl
  refine wi H h (fun b32 h => ?_) (fun b32 h => ?_)
  ·refine sr mx [] H (fun _ => .q 1 rfl<|.o (Qa z0)<|.n) fun _ a w H => ?_
   have H := H.to [1] [_] [] rfl rfl
   refine wp_ret ?_
   exact hJp23 _ _ _ (ho _ (sj h).symm) (H.pick [0])
  refine wp_skip (k28 _ _ ?_)
  refine wr mx [] H (fun _ => .o (QQ z3 .k)<|.q 0 rfl<|.n) fun _ a w H => ?_
  have H := H.to [1,4,5,6] [_,_,_,_] [] rfl rfl
  exact k25 _ _ _ (sj h).symm (H.pick [1,0,2,3])
 refine wp_exit ?_
 exact hJp22 _ _ _ (ho _ (sj h).symm) (H.pick [])

/- slices.ContainsFunc[[][2]int,[2]int] -/
noncomputable def QaS (s_ : (List QT)) (f_ : (QT → Option Bool)) : Option (Bool) := (Qba s_ f_).bind fun t7 => (some (decide (t7 ≥ (0:Int))))
theorem QiN {s_ : (List QT)} {f_ : (QT → Option Bool)} {r : Bool} (h : QaS s_ f_ = some r) : FnOk Tryz.prog 161 [tsl Qam s_,Qik.ty f_] [] (fun _ => []) (fun _ => tb r) := by
 unfold QaS at h
 refine fe Tryz.func161 Tryz.ntmps161 fun M0 M w0 a hpl H => ?_
 replace H : St M w0 9 [(0,tsl Qam s_),(1,Qik.ty f_)] [] a w0 := H
 refine sr mx [] H (fun _ => .o (Qa .k)<|.n) fun _ a w H => ?_
 have H := H.to [1,2] [_,_] [] rfl rfl
 have ⟨t7,ht7,h⟩ := bs h
 refine sr mx [] H (fun _ => .q 0 rfl<|.q 2 rfl<|.o (Qf QuF (QjM ht7) (.cons (.of z1)<|.cons (.of z0)<|.nil))<|.o (QaJ z0 .k)<|.o (Qa z0)<|.n) fun _ a w H => ?_
 have H := H.to [4] [_] [] rfl rfl
 refine wp_ret ?_
 obtain rfl := sj h
 exact rt undef [] hpl H (.tmp z0 .nil)

end Go.Proofs.YtcdccjagknlmpaaGreatDoor
