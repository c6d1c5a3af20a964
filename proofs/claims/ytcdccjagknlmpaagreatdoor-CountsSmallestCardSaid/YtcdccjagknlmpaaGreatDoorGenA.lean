/- Go functions as Lean functions, and the proofs that they compute them, written by a program. No condition. -/
import Derived.Test.YtcdccjagknlmpaaGreatDoorLib
namespace Go.Proofs.YtcdccjagknlmpaaGreatDoor
open Go.Sim
set_option maxRecDepth 100000
set_option maxHeartbeats 4000000

/- diorama/dioramaref01.Around -/
noncomputable def Qbn (n_ : Int) (most_ : Int) : Option (Int) := ((if (decide (n_ < (0:Int))) = true then (some (IntKind.i64.wrap (0 - (IntKind.i64.wrap (n_ + (1:Int)))))) else (some n_))).bind fun (p4 : Int) => (if (decide (most_ < (1:Int))) = true then (some (0:Int)) else (nz most_).bind fun _ => (some (Int.tmod p4 most_)))
theorem QfO {n_ : Int} {most_ : Int} {r : Int} (h : Qbn n_ most_ = some r) : FnOk Tryz.prog 17 [ti n_,ti most_] [] (fun _ => []) (fun _ => ti r) := by
 unfold Qbn at h
 refine fe Tryz.func17 Tryz.ntmps17 fun M0 M w0 a hpl H => ?_
 replace H : St M w0 15 [(0,ti n_),(1,ti most_)] [] a w0 := H
 refine sr mx [] H (fun _ => .o (Qa .k)<|.n) fun _ a w H => ?_
 have H := H.to [1,2] [_,_] [] rfl rfl
 refine wp_seq_k (fun K2 k2 => ?_)
 refine sr mx [] H (fun _ => .q 0 rfl<|.o (QU z0 .k)<|.n) fun _ a w H => ?_
 have H := H.to [1,2,3] [_,_,_] [] rfl rfl
 have ⟨p4,hp4,h⟩ := bs h
 have hJp4 : ∀ a w,St M w0 15 [(0,ti p4),(1,ti most_)] [] a w → K2 a w := by
  intro a w H
  refine k2 _ _ ?_
  refine wp_seq_k (fun _ k6 => ?_)
  refine sr mx [] H (fun _ => .q 1 rfl<|.o (QU z0 .k)<|.n) fun _ a w H => ?_
  have H := H.to [1,2,3] [_,_,_] [] rfl rfl
  refine wi H h (fun b10 h => ?_) (fun b10 h => ?_)
  ·refine sr mx [] H (fun _ => .o (Qa .k)<|.n) fun _ a w H => ?_
   have H := H.to [0] [_] [] rfl rfl
   refine wp_ret ?_
   obtain rfl := sj h
   exact rt undef [] hpl H (.tmp z0 .nil)
  refine wp_skip (k6 _ _ ?_)
  refine wp_seq_k (fun _ k9 => ?_)
  have ⟨u14,hu14,h⟩ := bs h
  refine wr mx [] H (fun _ => .q 1 rfl<|.q 3 rfl<|.o (op_rem z1 z0 (nz_ne hu14))<|.o (Qa z0)<|.n) fun _ a w H => ?_
  have H := H.to [3] [_] [] rfl rfl
  refine k9 _ _ ?_
  refine wp_ret ?_
  obtain rfl := sj h
  exact rt undef [] hpl H (.tmp z0 .nil)
 replace h := hp4
 clear hp4
 refine wi H h (fun b11 h => ?_) (fun b11 h => ?_)
 ·refine wr mx [] H (fun _ => .q 1 rfl<|.o (QV z0 .k)<|.o (Qr9 z0)<|.o (Qa z0)<|.n) fun _ a w H => ?_
  have H := H.to [3,5] [_,_] [] rfl rfl
  obtain rfl := sj h
  exact hJp4 _ _ (H.pick [0,1])
 refine wp_skip ?_
 obtain rfl := sj h
 exact hJp4 _ _ (H.pick [1,2])

/- diorama/dioramaref01.At -/
noncomputable def Qe4 (l_ : (List Int)) (i_ : Int) (most_ : Int) : Option (Int) := (if ((decide (i_ < (0:Int))) || (decide (i_ ≥ (l_.length : Int)))) = true then (some (0:Int)) else (idx l_ i_).bind fun t17 => (Qbn t17 most_).bind fun t20 => (some t20))
theorem Qmz {l_ : (List Int)} {i_ : Int} {most_ : Int} {r : Int} (h : Qe4 l_ i_ most_ = some r) : FnOk Tryz.prog 41 [tsl rI l_,ti i_,ti most_] [] (fun _ => []) (fun _ => ti r) := by
 unfold Qe4 at h
 refine fe Tryz.func41 Tryz.ntmps41 fun M0 M w0 a hpl H => ?_
 replace H : St M w0 21 [(0,tsl rI l_),(1,ti i_),(2,ti most_)] [] a w0 := H
 refine sr mx [] H (fun _ => .o (Qa .k)<|.n) fun _ a w H => ?_
 have H := H.to [1,2,3] [_,_,_] [] rfl rfl
 refine wp_seq_k (fun _ k2 => ?_)
 refine sr mx [] H (fun _ => .q 1 rfl<|.o (QU z0 .k)<|.q 0 rfl<|.g rfl rfl bq0 (fun _ => Qw z4)<|.g rfl rfl bq1 (fun _ => Qw z4)<|.g rfl rfl bq2 (fun hc => QN ud22 (.cond z0 hc))<|.g rfl rfl bq3 (fun hc => QaY (.cond z2 hc) (.cond z0 hc))<|.o (Qao z4 (fun hp => (.cond z0 (beqF hp))))<|.n) fun _ a w H => ?_
 have H := H.to [7,8,9,10] [_,_,_,_] [] rfl rfl
 refine wi H h (fun b6 h => ?_) (fun b6 h => ?_)
 ·refine sr mx [] H (fun _ => .o (Qa .k)<|.n) fun _ a w H => ?_
  have H := H.to [0] [_] [] rfl rfl
  refine wp_ret ?_
  obtain rfl := sj h
  exact rt undef [] hpl H (.tmp z0 .nil)
 refine wp_skip (k2 _ _ ?_)
 have ⟨t17,ht17,h⟩ := bs h
 have ⟨t20,ht20,h⟩ := bs h
 refine sr mx [] H (fun _ => .q 1 rfl<|.q 3 rfl<|.o (QG ud22 tok3 z1 z0 ht17)<|.o (Qr tok3 z0)<|.q 7 rfl<|.o (Qh Qnv (QfO ht20) (.cons (.of z1)<|.cons (.of z0)<|.nil))<|.o (Qa z0)<|.n) fun _ a w H => ?_
 have H := H.to [6] [_] [] rfl rfl
 refine wp_ret ?_
 obtain rfl := sj h
 exact rt undef [] hpl H (.tmp z0 .nil)

/- (*diorama/dioramaref09.Maker).Take -/
noncomputable def QA (m_ : Qv) (n_ : Int) : Option (Int × Qv) := (Qe4 (m_).L (IntKind.i64.wrap ((IntKind.i64.wrap ((m_).I + (1:Int))) - (1:Int))) n_).bind fun t22 => (some (t22,(Qv.mk (m_).L (IntKind.i64.wrap ((m_).I + (1:Int))))))
theorem QB {q0 : Value} {m_ : Qv} {n_ : Int} {r : Int × Qv} (h : QA m_ n_ = some r) : FnOk Tryz.prog 32 [tv q0,ti n_] [box (Qt.cs m_) q0] (fun _ => [box (Qt.cs r.2) q0]) (fun _ => ti r.1) := by
 unfold QA at h
 refine fe Tryz.func32 Tryz.ntmps32 fun M0 M w0 a hpl H => ?_
 replace H : St M w0 23 [(0,tv q0),(1,ti n_)] [box (Qt.cs m_) q0] a w0 := H
 refine sr mx [] H (fun _ => .o (Qa .k)<|.n) fun _ a w H => ?_
 have H := H.to [1,2] [_,_] [_] rfl rfl
 refine sr mx [v0 (box (Qt.cs (Qv.mk (m_).L (IntKind.i64.wrap ((m_).I + (1:Int))))) q0)] H (fun _ => .q 0 rfl<|.u [0] rfl rfl (Qay z0)<|.u [0] rfl rfl (Qz Qn8 z0)<|.u [0] rfl rfl (QaM (R := rI) (u := (m_).I) tok3 z0 rfl)<|.o (QV z0 .k)<|.u [0] rfl rfl (Qay z4)<|.u [0] rfl rfl (Qz Qn8 z0)<|.e [] [0] [1] rfl rfl rfl rfl (Qav (R := rI) (a := (IntKind.i64.wrap ((m_).I + (1:Int)))) (Ts := (Qt.cs m_)) (off := 1) tok3 z0 z2 (leb rfl))<|.n) fun _ a w H => ?_
 have H := H.to [7,8] [_,_] [_] rfl rfl
 have ⟨t22,ht22,h⟩ := bs h
 refine sr mx [] H (fun _ => .q 0 rfl<|.u [0] rfl rfl (Qay z0)<|.u [0] rfl rfl (Qz QuZ z0)<|.u [0] rfl rfl (QaM (R := (rSl rI)) (u := (m_).L) Qgc z0 rfl)<|.q 4 rfl<|.u [0] rfl rfl (Qay z0)<|.u [0] rfl rfl (Qz Qn8 z0)<|.u [0] rfl rfl (QaM (R := rI) (u := (IntKind.i64.wrap ((m_).I + (1:Int)))) tok3 z0 rfl)<|.o (Qdc z0 .k)<|.q 10 rfl<|.o (Qh Qsr (Qmz ht22) (.cons (.of z6)<|.cons (.of z1)<|.cons (.of z0)<|.nil))<|.o (Qa z0)<|.n) fun _ a w H => ?_
 have H := H.to [11,12] [_,_] [_] rfl rfl
 refine wp_ret ?_
 obtain rfl := sj h
 exact rt undef [0] hpl H (.tmp z0 .nil)

/- diorama/dioramaref09.Copied -/
noncomputable def Qdz (k_ : Qi) : Option (Int) := (QI (fun (s4 : Int) => ((if (decide (s4 < ((k_).Fields.length : Int))) = true then (idx (k_).Fields s4).bind fun t15 => (if (((((t15).Kind != (0:Int)) && ((t15).Kind != (1:Int))) && ((t15).Kind != (6:Int))) && ((t15).Kind != (7:Int))) = true then (some (.inr (.inr s4))) else (some (.inl (IntKind.i64.wrap (s4 + (1:Int)))))) else (some (.inr (.inl ())))) : Option ((Int) ⊕ ((Unit) ⊕ (Int))))) (0:Int)).bind fun (e5 : (Unit) ⊕ (Int)) => (match e5 with | .inl _ => (some (-1:Int)) | .inr p23 => (some p23))
theorem QnB {k_ : Qi} {r : Int} (h : Qdz k_ = some r) : FnOk Tryz.prog 70 [Qk.ty k_] [] (fun _ => []) (fun _ => ti r) := by
 unfold Qdz at h
 refine fe Tryz.func70 Tryz.ntmps70 fun M0 M w0 a hpl H => ?_
 replace H : St M w0 33 [(0,Qk.ty k_)] [] a w0 := H
 refine sr mx [] H (fun _ => .o (QT (R := Qk) (u := k_) z0)<|.o (Qa .k)<|.n) fun _ a w H => ?_
 have H := H.to [0] [_] [] rfl rfl
 refine wp_seq_k (fun K2 k2 => ?_)
 refine sr mx [] H (fun _ => .o (Qa .k)<|.n) fun _ a w H => ?_
 have H := H.to [0,1] [_,_] [] rfl rfl
 have ⟨e5,he5,h⟩ := bs h
 have hJp22 : ∀ (p22 : Unit) a w,(.inl p22) = e5 → St M w0 33 [] [] a w → K2 a w := by
  intro p22 a w he H
  subst he
  simp only at h
  refine k2 _ _ ?_
  refine sr mx [] H (fun _ => .o (Qa .k)<|.n) fun _ a w H => ?_
  have H := H.to [0] [_] [] rfl rfl
  refine wp_ret ?_
  obtain rfl := sj h
  exact rt undef [] hpl H (.tmp z0 .nil)
 have hJp23 : ∀ (p23 : Int) a w,(.inr p23) = e5 → St M w0 33 [(2,ti p23)] [] a w → Ret Tryz.prog Tryz.f70 M0 [] w0 (fun _ => []) (fun _ => ti r) .ret a w := by
  intro p23 a w he H
  subst he
  simp only at h
  obtain rfl := sj h
  exact rt undef [] hpl H (.tmp z0 .nil)
 refine wp_block ?_
 refine QZ _ (fun (s4 : Int) a w => St M w0 33 [(3,ti s4),(1,tptr (Qk.cs k_))] [] a w) _ _ he5 (H.pick [0,1]) ?_
 clear h
 intro s4 o a w K25 hI h ho k25
 have H := hI
 clear hI
 refine wp_seq_k (fun _ k26 => ?_)
 refine sr mx [] H (fun _ => .q 0 rfl<|.o (Qe Qap z2)<|.o (Qf (u := (k_).Fields) Qc8 z0 rfl)<|.o (QN ud53 z0)<|.o (QU z3 z0)<|.n) fun _ a w H => ?_
 have H := H.to [4,5,6] [_,_,_] [] rfl rfl
 refine wi H h (fun b33 h => ?_) (fun b33 h => ?_)
 ·refine wp_skip (k26 _ _ ?_)
  refine wp_seq_k (fun _ k28 => ?_)
  refine wp_block ?_
  have ⟨t15,ht15,h⟩ := bs h
  refine sr mx [] H (fun _ => .o (Qe Qap z2)<|.o (Qf (u := (k_).Fields) Qc8 z0 rfl)<|.q 3 rfl<|.o (QG ud53 QS z1 z0 ht15)<|.o (Qe QaX z0)<|.o (Qf (u := (t15).Kind) tok3 z0 rfl)<|.o (Qa z0)<|.n) fun _ a w H => ?_
  have H := H.to [6,8,9] [_,_,_] [] rfl rfl
  refine sr mx [] H (fun _ => .q 0 rfl<|.o (Qam z0 .k)<|.q 0 rfl<|.g rfl rfl bq0 (fun _ => Qw z3)<|.g rfl rfl bq1 (fun hc => Qam (.cond z0 hc) .k)<|.o (QY z2 (fun hp => (.cond z0 (beqT hp))))<|.q 0 rfl<|.g rfl rfl bq0 (fun _ => Qw z7)<|.g rfl rfl bq1 (fun hc => Qam (.cond z0 hc) .k)<|.o (QY z2 (fun hp => (.cond z0 (beqT hp))))<|.q 0 rfl<|.g rfl rfl bq0 (fun _ => Qw z11)<|.g rfl rfl bq1 (fun hc => Qam (.cond z0 hc) .k)<|.o (QY z2 (fun hp => (.cond z0 (beqT hp))))<|.n) fun _ a w H => ?_
  have H := H.to [13,15,16] [_,_,_] [] rfl rfl
  refine wi H h (fun b32 h => ?_) (fun b32 h => ?_)
  ·refine sr mx [] H (fun _ => .q 1 rfl<|.o (Qa z0)<|.n) fun _ a w H => ?_
   have H := H.to [1] [_] [] rfl rfl
   refine wp_ret ?_
   exact hJp23 _ _ _ (ho _ (sj h).symm) (H.pick [0])
  refine wp_skip (k28 _ _ ?_)
  refine wr mx [] H (fun _ => .q 1 rfl<|.o (QV z0 .k)<|.o (Qa z0)<|.n) fun _ a w H => ?_
  have H := H.to [2,4] [_,_] [] rfl rfl
  exact k25 _ _ _ (sj h).symm (H.pick [0,1])
 refine wp_exit ?_
 exact hJp22 _ _ _ (ho _ (sj h).symm) (H.pick [])

/- diorama/dioramaref09.has -/
noncomputable def Qc9 (l_ : (List Qc)) (name_ : Str) : Option (Int) := (QI (fun (s4 : Int) => ((if (decide (s4 < (l_.length : Int))) = true then (idx l_ s4).bind fun t14 => (if ((t14).Name == name_) = true then (some (.inr (.inr s4))) else (some (.inl (IntKind.i64.wrap (s4 + (1:Int)))))) else (some (.inr (.inl ())))) : Option ((Int) ⊕ ((Unit) ⊕ (Int))))) (0:Int)).bind fun (e5 : (Unit) ⊕ (Int)) => (match e5 with | .inl _ => (some (-1:Int)) | .inr p21 => (some p21))
theorem Qhy {l_ : (List Qc)} {name_ : Str} {r : Int} (h : Qc9 l_ name_ = some r) : FnOk Tryz.prog 71 [tsl Qd l_,tv (.string (sB name_))] [] (fun _ => []) (fun _ => ti r) := by
 unfold Qc9 at h
 refine fe Tryz.func71 Tryz.ntmps71 fun M0 M w0 a hpl H => ?_
 replace H : St M w0 20 [(0,tsl Qd l_),(1,tv (.string (sB name_)))] [] a w0 := H
 refine sr mx [] H (fun _ => .o (Qa .k)<|.n) fun _ a w H => ?_
 have H := H.to [1,2] [_,_] [] rfl rfl
 refine wp_seq_k (fun K2 k2 => ?_)
 refine sr mx [] H (fun _ => .o (Qa .k)<|.n) fun _ a w H => ?_
 have H := H.to [0,1,2] [_,_,_] [] rfl rfl
 have ⟨e5,he5,h⟩ := bs h
 have hJp20 : ∀ (p20 : Unit) a w,(.inl p20) = e5 → St M w0 20 [] [] a w → K2 a w := by
  intro p20 a w he H
  subst he
  simp only at h
  refine k2 _ _ ?_
  refine sr mx [] H (fun _ => .o (Qa .k)<|.n) fun _ a w H => ?_
  have H := H.to [0] [_] [] rfl rfl
  refine wp_ret ?_
  obtain rfl := sj h
  exact rt undef [] hpl H (.tmp z0 .nil)
 have hJp21 : ∀ (p21 : Int) a w,(.inr p21) = e5 → St M w0 20 [(4,ti p21)] [] a w → Ret Tryz.prog Tryz.f71 M0 [] w0 (fun _ => []) (fun _ => ti r) .ret a w := by
  intro p21 a w he H
  subst he
  simp only at h
  obtain rfl := sj h
  exact rt undef [] hpl H (.tmp z0 .nil)
 refine wp_block ?_
 refine QZ _ (fun (s4 : Int) a w => St M w0 20 [(5,ti s4),(0,tsl Qd l_),(1,tv (.string (sB name_)))] [] a w) _ _ he5 (H.pick [0,1,2]) ?_
 clear h
 intro s4 o a w K23 hI h ho k23
 have H := hI
 clear hI
 refine wp_seq_k (fun _ k24 => ?_)
 refine sr mx [] H (fun _ => .q 0 rfl<|.q 2 rfl<|.o (QN ud53 z0)<|.o (QU z2 z0)<|.n) fun _ a w H => ?_
 have H := H.to [3,4,5,6] [_,_,_,_] [] rfl rfl
 refine wi H h (fun b30 h => ?_) (fun b30 h => ?_)
 ·refine wp_skip (k24 _ _ ?_)
  refine wp_seq_k (fun _ k26 => ?_)
  refine wp_block ?_
  have ⟨t14,ht14,h⟩ := bs h
  refine sr mx [] H (fun _ => .q 2 rfl<|.q 2 rfl<|.o (QG ud53 QS z1 z0 ht14)<|.o (Qe Qce z0)<|.o (Qf (u := (t14).Name) tok9 z0 rfl)<|.q 8 rfl<|.o (QcX z1 z0)<|.n) fun _ a w H => ?_
  have H := H.to [6,8,9,10] [_,_,_,_] [] rfl rfl
  refine wi H h (fun b29 h => ?_) (fun b29 h => ?_)
  ·refine sr mx [] H (fun _ => .q 1 rfl<|.o (Qa z0)<|.n) fun _ a w H => ?_
   have H := H.to [1] [_] [] rfl rfl
   refine wp_ret ?_
   exact hJp21 _ _ _ (ho _ (sj h).symm) (H.pick [0])
  refine wp_skip (k26 _ _ ?_)
  refine wr mx [] H (fun _ => .q 1 rfl<|.o (QV z0 .k)<|.o (Qa z0)<|.n) fun _ a w H => ?_
  have H := H.to [2,4,5] [_,_,_] [] rfl rfl
  exact k23 _ _ _ (sj h).symm (H.pick [0,1,2])
 refine wp_exit ?_
 exact hJp20 _ _ _ (ho _ (sj h).symm) (H.pick [])

/- (*diorama/dioramaref09.Maker).plain -/
noncomputable def QaN (m_ : Qv) : Option ((List Qc) × Qv) := (QA m_ (6:Int)).bind fun t10 => (if (t10.1 == (0:Int)) = true then (QA t10.2 (11:Int)).bind fun t14 => (QA t14.2 (20:Int)).bind fun t19 => (some ([(Qc.mk ([115,105,122,101] : Str) ([] : Str) ([] : Str) (2:Int) (IntKind.i64.wrap (t14.1 - (5:Int))) (IntKind.i64.wrap ((IntKind.i64.wrap (t14.1 - (5:Int))) + t19.1)) ([] : (List Str)) ([] : (List Int)))],t19.2)) else (if (t10.1 == (1:Int)) = true then (QA t10.2 (3:Int)).bind fun t27 => (sub [([114,101,100] : Str),([103,114,101,101,110] : Str),([98,108,117,101] : Str)] (0:Int) (IntKind.i64.wrap ((1:Int) + t27.1))).bind fun t29 => (QI (fun (s15 : Int × List Int × Qv) => ((if (decide (s15.1 < (t29.length : Int))) = true then (QA s15.2.2 (5:Int)).bind fun t41 => (rm (s15.2.1.length + [t41.1].length)).bind fun _ => (some (.inl ((IntKind.i64.wrap (s15.1 + (1:Int))),(s15.2.1 ++ [t41.1]),t41.2))) else (some (.inr (s15.2.1,s15.2.2)))) : Option ((Int × List Int × Qv) ⊕ ((List Int × Qv))))) ((0:Int),([] : List Int),t27.2)).bind fun (p26 : (List Int × Qv)) => (QA p26.2 (t29.length : Int)).bind fun t50 => (QA t50.2 (3:Int)).bind fun t52 => (setAt p26.1 t50.1 (IntKind.i64.wrap ((1:Int) + t52.1))).bind fun t54s => (some ([(Qc.mk ([116,97,103] : Str) ([] : Str) ([] : Str) (3:Int) (0:Int) (0:Int) t29 t54s)],t52.2)) else (if (t10.1 == (2:Int)) = true then (QA t10.2 (400:Int)).bind fun t60 => (QA t60.2 (60:Int)).bind fun t66 => (QA t66.2 (3:Int)).bind fun t71 => (QA t71.2 (30:Int)).bind fun t73 => (some ([(Qc.mk ([98,111,114,110] : Str) ([] : Str) ([] : Str) (4:Int) (IntKind.i64.wrap (t60.1 - (200:Int))) (IntKind.i64.wrap ((IntKind.i64.wrap (t60.1 - (200:Int))) + t66.1)) ([] : (List Str)) ([] : (List Int))),(Qc.mk ([108,101,102,116] : Str) ([98,111,114,110] : Str) ([] : Str) (4:Int) t71.1 (IntKind.i64.wrap ((3:Int) + t73.1)) ([] : (List Str)) ([] : (List Int)))],t73.2)) else (if (t10.1 == (3:Int)) = true then (QA t10.2 (3:Int)).bind fun t80 => (QA t80.2 (4:Int)).bind fun t84 => (some ([(Qc.mk ([115,116,97,116,101] : Str) ([108,105,102,101] : Str) ([] : Str) (5:Int) t80.1 (IntKind.i64.wrap (t80.1 + t84.1)) ([] : (List Str)) ([] : (List Int)))],t84.2)) else (if (t10.1 == (4:Int)) = true then (QA t10.2 (5:Int)).bind fun t91 => (QA t91.2 (10:Int)).bind fun t93 => (QA t93.2 (5:Int)).bind fun t97 => (QA t97.2 (10:Int)).bind fun t99 => (some ([(Qc.mk ([108,111,119] : Str) ([] : Str) ([] : Str) (2:Int) t91.1 (IntKind.i64.wrap ((5:Int) + t93.1)) ([] : (List Str)) ([] : (List Int))),(Qc.mk ([104,105,103,104] : Str) ([] : Str) ([] : Str) (2:Int) t97.1 (IntKind.i64.wrap ((10:Int) + t99.1)) ([] : (List Str)) ([] : (List Int)))],t99.2)) else (some (([] : List Qc),t10.2)))))))
theorem Qhz {q0 : Value} {m_ : Qv} {r : (List Qc) × Qv} (h : QaN m_ = some r) : FnOk Tryz.prog 72 [tv q0] [box (Qt.cs m_) q0] (fun _ => [box (Qt.cs r.2) q0]) (fun _ => tsl Qd r.1) := by
 unfold QaN at h
 refine fe Tryz.func72 Tryz.ntmps72 fun M0 M w0 a hpl H => ?_
 replace H : St M w0 103 [(0,tv q0)] [box (Qt.cs m_) q0] a w0 := H
 refine sr mx [] H (fun _ => .o (Qa (.nilsl (R := Qd)))<|.n) fun _ a w H => ?_
 have H := H.to [1] [_] [_] rfl rfl
 refine wp_seq_k (fun _ k3 => ?_)
 have ⟨t10,ht10,h⟩ := bs h
 refine sr mx [v0 (box (Qt.cs t10.2) q0)] H (fun _ => .q 0 rfl<|.e [] [0] [1] rfl rfl rfl rfl (Qh Qas (QB ht10) (.cons (.of z0)<|.cons (.of .k)<|.nil))<|.n) fun _ a w H => ?_
 have H := H.to [1,2] [_,_] [_] rfl rfl
 refine wp_block ?_
 refine sr mx [] H (fun _ => .o (Q4 z0 .k)<|.o (Qa z0)<|.n) fun _ a w H => ?_
 have H := H.to [1,2,3] [_,_,_] [_] rfl rfl
 refine wi H h (fun b50 h => ?_) (fun b50 h => ?_)
 ·have ⟨t14,ht14,h⟩ := bs h
  refine sr mx [v0 (box (Qt.cs t14.2) q0)] H (fun _ => .q 2 rfl<|.e [] [0] [1] rfl rfl rfl rfl (Qh Qas (QB ht14) (.cons (.of z0)<|.cons (.of .k)<|.nil))<|.o (Qdc z0 .k)<|.o (Qa z0)<|.n) fun _ a w H => ?_
  have H := H.to [3,6] [_,_] [_] rfl rfl
  have ⟨t19,ht19,h⟩ := bs h
  refine sr mx [v0 (box (Qt.cs t19.2) q0)] H (fun _ => .q 0 rfl<|.q 1 rfl<|.q 3 rfl<|.e [] [0] [1] rfl rfl rfl rfl (Qh Qas (QB ht19) (.cons (.of z0)<|.cons (.of .k)<|.nil))<|.o (QV z2 z0)<|.p (T := Qd.ty (Qc.mk ([115,105,122,101] : Str) ([] : Str) ([] : Str) (2:Int) (IntKind.i64.wrap (t14.1 - (5:Int))) (IntKind.i64.wrap ((IntKind.i64.wrap (t14.1 - (5:Int))) + t19.1)) ([] : (List Str)) ([] : (List Int)))) rfl (QX ud61 pl61 zv61 zc61 (.cons (R := rS) (u := ([115,105,122,101] : Str)) rfl .k (leb rfl)<|.cons (R := rI) (u := (2:Int)) rfl .k (leb rfl)<|.cons (R := rI) (u := (IntKind.i64.wrap (t14.1 - (5:Int)))) rfl z4 (leb rfl)<|.cons (R := rI) (u := (IntKind.i64.wrap ((IntKind.i64.wrap (t14.1 - (5:Int))) + t19.1))) rfl z0 (leb rfl)<|.nil _))<|.o (QE (R := Qd) (us := [(Qc.mk ([115,105,122,101] : Str) ([] : Str) ([] : Str) (2:Int) (IntKind.i64.wrap (t14.1 - (5:Int))) (IntKind.i64.wrap ((IntKind.i64.wrap (t14.1 - (5:Int))) + t19.1)) ([] : (List Str)) ([] : (List Int)))]) ud53 QS (.cons z0<|.nil _) rfl (leb rfl))<|.o (Qa z0)<|.n) fun _ a w H => ?_
  have H := H.to [7,9] [_,_] [_] rfl rfl
  refine wp_ret ?_
  obtain rfl := sj h
  exact rt undef [0] hpl H (.tmp z0 .nil)
 refine sr mx [] H (fun _ => .o (Q4 z1 .k)<|.o (Qa z0)<|.n) fun _ a w H => ?_
 have H := H.to [1,3,4] [_,_,_] [_] rfl rfl
 refine wi H h (fun b49 h => ?_) (fun b49 h => ?_)
 ·have ⟨t27,ht27,h⟩ := bs h
  have ⟨t29,ht29,h⟩ := bs h
  refine sr mx [v0 (box (Qt.cs t27.2) q0)] H (fun _ => .o (QE (R := rS) (us := [([114,101,100] : Str),([103,114,101,101,110] : Str),([98,108,117,101] : Str)]) ud32 tok9 (.cons .k<|.cons .k<|.cons .k<|.nil _) rfl (leb rfl))<|.q 3 rfl<|.e [] [0] [1] rfl rfl rfl rfl (Qh Qas (QB ht27) (.cons (.of z0)<|.cons (.of .k)<|.nil))<|.o (QV .k z0)<|.o (QgU ud32 tok9 z3 (.no _) (.op z0) ht29)<|.o (Qa z0)<|.n) fun _ a w H => ?_
  have H := H.to [5,8] [_,_] [_] rfl rfl
  refine sr mx [v1 2 (fun v0 => box (Qd.cs zz0) v0),v1 2 (fun v0 => box ([tv (.string (sB ([116,97,103] : Str))),tv (.string (sB ([] : Str))),tv (.string (sB ([] : Str))),ti (3:Int),ti (0:Int),ti (0:Int),tsl rS t29,tvs nilV]) v0)] H (fun _ => .q 0 rfl<|.p (T := tagg ([tv (.string (sB ([116,97,103] : Str))),tv (.string (sB ([] : Str))),tv (.string (sB ([] : Str))),ti (3:Int),ti (0:Int),ti (0:Int),tsl rS t29,tvs nilV])) rfl (QX ud61 pl61 zv61 (QtQ).1 (.cons (R := rS) (u := ([116,97,103] : Str)) rfl .k (leb rfl)<|.cons (R := rI) (u := (3:Int)) rfl .k (leb rfl)<|.cons (R := (rSl rS)) (u := t29) rfl z0 (leb rfl)<|.nil _))<|.m [] [1] rfl rfl rfl (Q1 (R := Qd) (a := zz0) QS Qeh)<|.e [] [1] [2] rfl rfl rfl rfl (QR (R := (rAgg ([tv (.string (sB ([116,97,103] : Str))),tv (.string (sB ([] : Str))),tv (.string (sB ([] : Str))),ti (3:Int),ti (0:Int),ti (0:Int),tsl rS t29,tvs nilV]) (Qy (Q3 rfl) (Qy (Q3 rfl) (Qy (Q3 rfl) (Qy (Q3 rfl) (Qy (Q3 rfl) (Qy (Q3 rfl) (Qy Qcd (Qy QdW Qal)))))))))) (a := ()) (tokA QS (Qy (Q3 rfl) (Qy (Q3 rfl) (Qy (Q3 rfl) (Qy (Q3 rfl) (Qy (Q3 rfl) (Qy (Q3 rfl) (Qy Qcd (Qy QdW Qal)))))))) rfl rfl) z0 z1 (leb rfl))<|.n) fun n7 a w H => ?_
  replace H : St _ _ _ [_,_,_] [_,_,_] _ _ := (H.pick [2,3,4]).nil (rI) 3
  refine wp_seq_k (fun K13 k13 => ?_)
  refine sr mx [] H (fun _ => .o (Qa .k)<|.n) fun _ a w H => ?_
  have H := H.to [0,1,2,3] [_,_,_,_] [_,_,_] rfl rfl
  have ⟨e16,he16,h⟩ := bs h
  have hJp26 : ∀ (p26 : List Int × Qv) (v27 : Value) a w,p26 = e16 → St M w0 103 [(5,tv (n7 2)),(4,tsl rS t29),(0,tv q0)] [own rI 3 p26.1 v27,box (Qt.cs p26.2) q0,box ([tv (.string (sB ([116,97,103] : Str))),tv (.string (sB ([] : Str))),tv (.string (sB ([] : Str))),ti (3:Int),ti (0:Int),ti (0:Int),tsl rS t29,tvs v27]) (n7 2)] a w → K13 a w := by
   intro p26 v27 a w he H
   subst he
   refine k13 _ _ ?_
   have ⟨t50,ht50,h⟩ := bs h
   have ⟨t52,ht52,h⟩ := bs h
   have ⟨t54s,ht54s,h⟩ := bs h
   refine sr mx [v0 (box (Qt.cs t50.2) q0),v0 (box (Qt.cs t52.2) q0),v0 (own rI 3 t54s v27)] H (fun _ => .u [2] rfl rfl (Qz Qgi z0)<|.u [2] rfl rfl (Qac (u := v27) QpW z0 rfl)<|.q 4 rfl<|.q 4 rfl<|.o (QN ud32 z0)<|.e [] [1] [3] rfl rfl rfl rfl (Qh Qas (QB ht50) (.cons (.of z2)<|.cons (.of z0)<|.nil))<|.q 8 rfl<|.e [] [3] [4] rfl rfl rfl rfl (Qh Qas (QB ht52) (.cons (.of z0)<|.cons (.of .k)<|.nil))<|.o (QV .k z0)<|.u [0] rfl rfl (Qng ud22 tok3 z7 z3 ht54s)<|.e [] [0] [5] rfl rfl rfl rfl (QoH tok3 z0 z1 ht54s)<|.n) fun _ a w H => ?_
   have H := H.to [1,10,12] [_,_,_] [_,_,_] rfl rfl
   refine wp_seq_k (fun _ k29 => ?_)
   replace H : St _ _ _ [_,_] [_,_] _ _ := ((H.pick [1,2]).selA [2,0,1] rfl).shareC 7 rfl
   refine wr mx [] H (fun _ => .u [0] rfl rfl (Qdy (R := Qd) (u := (Qc.mk ([116,97,103] : Str) ([] : Str) ([] : Str) (3:Int) (0:Int) (0:Int) t29 t54s)) QS z0 rfl)<|.o (QE (R := Qd) (us := [(Qc.mk ([116,97,103] : Str) ([] : Str) ([] : Str) (3:Int) (0:Int) (0:Int) t29 t54s)]) ud53 QS (.cons z0<|.nil _) rfl (leb rfl))<|.o (Qa z0)<|.n) fun _ a w H => ?_
   replace H : St _ _ _ [_,_] [_] _ _ := (H.pick [2,4]).selA [1] rfl
   refine k29 _ _ ?_
   refine wp_ret ?_
   obtain rfl := sj h
   exact rt undef [0] hpl H (.tmp z0 .nil)
  refine wp_block ?_
  refine QZ _ (fun (s15 : Int × List Int × Qv) a w => ∃ v21 : Value,St M w0 103 [(6,ti s15.1),(5,tv (n7 2)),(4,tsl rS t29),(0,tv q0)] [own rI 3 s15.2.1 v21,box (Qt.cs s15.2.2) q0,box ([tv (.string (sB ([116,97,103] : Str))),tv (.string (sB ([] : Str))),tv (.string (sB ([] : Str))),ti (3:Int),ti (0:Int),ti (0:Int),tsl rS t29,tvs v21]) (n7 2)] a w) _ _ he16 ⟨nilV,H.pick [0,1,2,3]⟩ ?_
  clear h
  intro s15 o a w K30 hI h ho k30
  obtain ⟨v21,H⟩ := hI
  refine wp_seq_k (fun _ k31 => ?_)
  refine sr mx [] H (fun _ => .q 0 rfl<|.q 3 rfl<|.o (QN ud32 z0)<|.o (QU z2 z0)<|.n) fun _ a w H => ?_
  have H := H.to [3,4,5,6,7] [_,_,_,_,_] [_,_,_] rfl rfl
  refine wi H h (fun b34 h => ?_) (fun b34 h => ?_)
  ·refine wp_skip (k31 _ _ ?_)
   refine wp_seq_k (fun _ k33 => ?_)
   refine wp_block ?_
   have ⟨t41,ht41,h⟩ := bs h
   have ⟨u43,hu43,h⟩ := bs h
   refine wr mx [v0 (box (Qt.cs t41.2) q0),v1 5 (fun v0 => own rI 3 (s15.2.1 ++ [t41.1]) v0),v1 5 (fun v0 => box ([tv (.string (sB ([116,97,103] : Str))),tv (.string (sB ([] : Str))),tv (.string (sB ([] : Str))),ti (3:Int),ti (0:Int),ti (0:Int),tsl rS t29,tvs v0]) (n7 2))] H (fun _ => .u [2] rfl rfl (Qz Qgi z2)<|.u [2] rfl rfl (Qac (u := v21) QpW z0 rfl)<|.q 6 rfl<|.e [] [1] [3] rfl rfl rfl rfl (Qh Qas (QB ht41) (.cons (.of z0)<|.cons (.of .k)<|.nil))<|.o (QE (R := rI) (us := [t41.1]) ud22 tok3 (.cons z0<|.nil _) rfl (leb rfl))<|.e [] [0] [4] rfl rfl rfl rfl (Qaf (R := rI) ud22 tok3 (leb rfl) z3 z0 hu43)<|.u [2] rfl rfl (Qz Qgi z8)<|.e [4] [2] [5] rfl rfl rfl rfl (Qa9 (R := rI) (e := 3) (Ts := ([tv (.string (sB ([116,97,103] : Str))),tv (.string (sB ([] : Str))),tv (.string (sB ([] : Str))),ti (3:Int),ti (0:Int),ti (0:Int),tsl rS t29,tvs v21])) (off := 7) QpW z0 z1 (leb rfl))<|.n) fun n11 a w H => ?_
   have H := H.to [5,8,9,10,11] [_,_,_,_,_] [_,_,_] rfl rfl
   refine k33 _ _ ?_
   refine wr mx [] H (fun _ => .q 1 rfl<|.o (QV z0 .k)<|.o (Qa z0)<|.n) fun _ a w H => ?_
   have H := H.to [2,3,4,5,6] [_,_,_,_,_] [_,_,_] rfl rfl
   exact k30 _ _ _ (sj h).symm ⟨(n11 5),(H.pick [0,2,3,4]).selA [1,0,2] rfl⟩
  refine wp_exit ?_
  exact hJp26 _ v21 _ _ (ho _ (sj h).symm) (H.pick [2,3,4])
 refine sr mx [] H (fun _ => .o (Q4 z1 .k)<|.o (Qa z0)<|.n) fun _ a w H => ?_
 have H := H.to [1,3,4] [_,_,_] [_] rfl rfl
 refine wi H h (fun b48 h => ?_) (fun b48 h => ?_)
 ·have ⟨t60,ht60,h⟩ := bs h
  refine sr mx [v0 (box (Qt.cs t60.2) q0),v1 4 (fun v0 => box (Qd.cs zz0) v0),v1 4 (fun v0 => box (Qd.cs (Qc.mk ([98,111,114,110] : Str) ([] : Str) ([] : Str) (4:Int) (IntKind.i64.wrap (t60.1 - (200:Int))) (0:Int) ([] : (List Str)) ([] : (List Int)))) v0)] H (fun _ => .q 2 rfl<|.e [] [0] [1] rfl rfl rfl rfl (Qh Qas (QB ht60) (.cons (.of z0)<|.cons (.of .k)<|.nil))<|.o (Qdc z0 .k)<|.p (T := Qd.ty (Qc.mk ([98,111,114,110] : Str) ([] : Str) ([] : Str) (4:Int) (IntKind.i64.wrap (t60.1 - (200:Int))) (0:Int) ([] : (List Str)) ([] : (List Int)))) rfl (QX ud61 pl61 zv61 zc61 (.cons (R := rS) (u := ([98,111,114,110] : Str)) rfl .k (leb rfl)<|.cons (R := rI) (u := (4:Int)) rfl .k (leb rfl)<|.cons (R := rI) (u := (IntKind.i64.wrap (t60.1 - (200:Int)))) rfl z0 (leb rfl)<|.nil _))<|.m [] [2] rfl rfl rfl (Q1 (R := Qd) (a := zz0) QS Qeh)<|.e [] [2] [3] rfl rfl rfl rfl (QR (R := Qd) (a := (Qc.mk ([98,111,114,110] : Str) ([] : Str) ([] : Str) (4:Int) (IntKind.i64.wrap (t60.1 - (200:Int))) (0:Int) ([] : (List Str)) ([] : (List Int)))) QS z0 z1 (leb rfl))<|.n) fun n15 a w H => ?_
  have H := H.to [4,7] [_,_] [_,_] rfl rfl
  have ⟨t66,ht66,h⟩ := bs h
  refine sr mx [v0 (box (Qt.cs t66.2) q0),v0 (box (Qd.cs (Qc.mk ([98,111,114,110] : Str) ([] : Str) ([] : Str) (4:Int) (IntKind.i64.wrap (t60.1 - (200:Int))) (IntKind.i64.wrap ((IntKind.i64.wrap (t60.1 - (200:Int))) + t66.1)) ([] : (List Str)) ([] : (List Int)))) (n15 4))] H (fun _ => .u [1] rfl rfl (Qz Qbd z0)<|.u [1] rfl rfl (QaM (R := rI) (u := (IntKind.i64.wrap (t60.1 - (200:Int)))) tok3 z0 rfl)<|.q 3 rfl<|.e [] [0] [2] rfl rfl rfl rfl (Qh Qas (QB ht66) (.cons (.of z0)<|.cons (.of .k)<|.nil))<|.o (QV z2 z0)<|.u [1] rfl rfl (Qz Qb0 z5)<|.e [] [1] [3] rfl rfl rfl rfl (Qav (R := rI) (a := (IntKind.i64.wrap ((IntKind.i64.wrap (t60.1 - (200:Int))) + t66.1))) (Ts := (Qd.cs (Qc.mk ([98,111,114,110] : Str) ([] : Str) ([] : Str) (4:Int) (IntKind.i64.wrap (t60.1 - (200:Int))) (0:Int) ([] : (List Str)) ([] : (List Int))))) (off := 5) tok3 z0 z1 (leb rfl))<|.n) fun _ a w H => ?_
  have H := H.to [6,7] [_,_] [_,_] rfl rfl
  have ⟨t71,ht71,h⟩ := bs h
  have ⟨t73,ht73,h⟩ := bs h
  refine sr mx [v0 (box (Qt.cs t71.2) q0),v0 (box (Qt.cs t73.2) q0)] H (fun _ => .u [1] rfl rfl (Qdy (R := Qd) (u := (Qc.mk ([98,111,114,110] : Str) ([] : Str) ([] : Str) (4:Int) (IntKind.i64.wrap (t60.1 - (200:Int))) (IntKind.i64.wrap ((IntKind.i64.wrap (t60.1 - (200:Int))) + t66.1)) ([] : (List Str)) ([] : (List Int)))) QS z0 rfl)<|.q 2 rfl<|.e [] [0] [2] rfl rfl rfl rfl (Qh Qas (QB ht71) (.cons (.of z0)<|.cons (.of .k)<|.nil))<|.q 4 rfl<|.e [] [2] [3] rfl rfl rfl rfl (Qh Qas (QB ht73) (.cons (.of z0)<|.cons (.of .k)<|.nil))<|.o (QV .k z0)<|.p (T := Qd.ty (Qc.mk ([108,101,102,116] : Str) ([98,111,114,110] : Str) ([] : Str) (4:Int) t71.1 (IntKind.i64.wrap ((3:Int) + t73.1)) ([] : (List Str)) ([] : (List Int)))) rfl (QX ud61 pl61 zv61 zc61 (.cons (R := rS) (u := ([108,101,102,116] : Str)) rfl .k (leb rfl)<|.cons (R := rI) (u := (4:Int)) rfl .k (leb rfl)<|.cons (R := rS) (u := ([98,111,114,110] : Str)) rfl .k (leb rfl)<|.cons (R := rI) (u := t71.1) rfl z3 (leb rfl)<|.cons (R := rI) (u := (IntKind.i64.wrap ((3:Int) + t73.1))) rfl z0 (leb rfl)<|.nil _))<|.o (QE (R := Qd) (us := [(Qc.mk ([98,111,114,110] : Str) ([] : Str) ([] : Str) (4:Int) (IntKind.i64.wrap (t60.1 - (200:Int))) (IntKind.i64.wrap ((IntKind.i64.wrap (t60.1 - (200:Int))) + t66.1)) ([] : (List Str)) ([] : (List Int))),(Qc.mk ([108,101,102,116] : Str) ([98,111,114,110] : Str) ([] : Str) (4:Int) t71.1 (IntKind.i64.wrap ((3:Int) + t73.1)) ([] : (List Str)) ([] : (List Int)))]) ud53 QS (.cons z6<|.cons z0<|.nil _) rfl (leb rfl))<|.o (Qa z0)<|.n) fun _ a w H => ?_
  replace H : St _ _ _ [_,_] [_] _ _ := (H.pick [8,10]).selA [1] rfl
  refine wp_ret ?_
  obtain rfl := sj h
  exact rt undef [0] hpl H (.tmp z0 .nil)
 refine sr mx [] H (fun _ => .o (Q4 z1 .k)<|.o (Qa z0)<|.n) fun _ a w H => ?_
 have H := H.to [1,3,4] [_,_,_] [_] rfl rfl
 refine wi H h (fun b47 h => ?_) (fun b47 h => ?_)
 ·have ⟨t80,ht80,h⟩ := bs h
  refine sr mx [v0 (box (Qt.cs t80.2) q0)] H (fun _ => .q 2 rfl<|.e [] [0] [1] rfl rfl rfl rfl (Qh Qas (QB ht80) (.cons (.of z0)<|.cons (.of .k)<|.nil))<|.o (Qa z0)<|.n) fun _ a w H => ?_
  have H := H.to [2,5] [_,_] [_] rfl rfl
  have ⟨t84,ht84,h⟩ := bs h
  refine sr mx [v0 (box (Qt.cs t84.2) q0)] H (fun _ => .q 0 rfl<|.q 1 rfl<|.q 3 rfl<|.e [] [0] [1] rfl rfl rfl rfl (Qh Qas (QB ht84) (.cons (.of z0)<|.cons (.of .k)<|.nil))<|.o (QV z2 z0)<|.p (T := Qd.ty (Qc.mk ([115,116,97,116,101] : Str) ([108,105,102,101] : Str) ([] : Str) (5:Int) t80.1 (IntKind.i64.wrap (t80.1 + t84.1)) ([] : (List Str)) ([] : (List Int)))) rfl (QX ud61 pl61 zv61 zc61 (.cons (R := rS) (u := ([115,116,97,116,101] : Str)) rfl .k (leb rfl)<|.cons (R := rI) (u := (5:Int)) rfl .k (leb rfl)<|.cons (R := rS) (u := ([108,105,102,101] : Str)) rfl .k (leb rfl)<|.cons (R := rI) (u := t80.1) rfl z4 (leb rfl)<|.cons (R := rI) (u := (IntKind.i64.wrap (t80.1 + t84.1))) rfl z0 (leb rfl)<|.nil _))<|.o (QE (R := Qd) (us := [(Qc.mk ([115,116,97,116,101] : Str) ([108,105,102,101] : Str) ([] : Str) (5:Int) t80.1 (IntKind.i64.wrap (t80.1 + t84.1)) ([] : (List Str)) ([] : (List Int)))]) ud53 QS (.cons z0<|.nil _) rfl (leb rfl))<|.o (Qa z0)<|.n) fun _ a w H => ?_
  have H := H.to [7,9] [_,_] [_] rfl rfl
  refine wp_ret ?_
  obtain rfl := sj h
  exact rt undef [0] hpl H (.tmp z0 .nil)
 refine sr mx [] H (fun _ => .o (Q4 z1 .k)<|.o (Qa z0)<|.n) fun _ a w H => ?_
 have H := H.to [1,4] [_,_] [_] rfl rfl
 refine wi H h (fun b46 h => ?_) (fun b46 h => ?_)
 ·have ⟨t91,ht91,h⟩ := bs h
  have ⟨t93,ht93,h⟩ := bs h
  have ⟨t97,ht97,h⟩ := bs h
  have ⟨t99,ht99,h⟩ := bs h
  refine sr mx [v0 (box (Qt.cs t91.2) q0),v0 (box (Qt.cs t93.2) q0),v0 (box (Qt.cs t97.2) q0),v0 (box (Qt.cs t99.2) q0)] H (fun _ => .q 1 rfl<|.e [] [0] [1] rfl rfl rfl rfl (Qh Qas (QB ht91) (.cons (.of z0)<|.cons (.of .k)<|.nil))<|.q 3 rfl<|.e [] [1] [2] rfl rfl rfl rfl (Qh Qas (QB ht93) (.cons (.of z0)<|.cons (.of .k)<|.nil))<|.o (QV .k z0)<|.p (T := Qd.ty (Qc.mk ([108,111,119] : Str) ([] : Str) ([] : Str) (2:Int) t91.1 (IntKind.i64.wrap ((5:Int) + t93.1)) ([] : (List Str)) ([] : (List Int)))) rfl (QX ud61 pl61 zv61 zc61 (.cons (R := rS) (u := ([108,111,119] : Str)) rfl .k (leb rfl)<|.cons (R := rI) (u := (2:Int)) rfl .k (leb rfl)<|.cons (R := rI) (u := t91.1) rfl z3 (leb rfl)<|.cons (R := rI) (u := (IntKind.i64.wrap ((5:Int) + t93.1))) rfl z0 (leb rfl)<|.nil _))<|.q 7 rfl<|.e [] [2] [3] rfl rfl rfl rfl (Qh Qas (QB ht97) (.cons (.of z0)<|.cons (.of .k)<|.nil))<|.q 9 rfl<|.e [] [3] [4] rfl rfl rfl rfl (Qh Qas (QB ht99) (.cons (.of z0)<|.cons (.of .k)<|.nil))<|.o (QV .k z0)<|.p (T := Qd.ty (Qc.mk ([104,105,103,104] : Str) ([] : Str) ([] : Str) (2:Int) t97.1 (IntKind.i64.wrap ((10:Int) + t99.1)) ([] : (List Str)) ([] : (List Int)))) rfl (QX ud61 pl61 zv61 zc61 (.cons (R := rS) (u := ([104,105,103,104] : Str)) rfl .k (leb rfl)<|.cons (R := rI) (u := (2:Int)) rfl .k (leb rfl)<|.cons (R := rI) (u := t97.1) rfl z3 (leb rfl)<|.cons (R := rI) (u := (IntKind.i64.wrap ((10:Int) + t99.1))) rfl z0 (leb rfl)<|.nil _))<|.o (QE (R := Qd) (us := [(Qc.mk ([108,111,119] : Str) ([] : Str) ([] : Str) (2:Int) t91.1 (IntKind.i64.wrap ((5:Int) + t93.1)) ([] : (List Str)) ([] : (List Int))),(Qc.mk ([104,105,103,104] : Str) ([] : Str) ([] : Str) (2:Int) t97.1 (IntKind.i64.wrap ((10:Int) + t99.1)) ([] : (List Str)) ([] : (List Int)))]) ud53 QS (.cons z6<|.cons z0<|.nil _) rfl (leb rfl))<|.o (Qa z0)<|.n) fun _ a w H => ?_
  have H := H.to [13,15] [_,_] [_] rfl rfl
  refine wp_ret ?_
  obtain rfl := sj h
  exact rt undef [0] hpl H (.tmp z0 .nil)
 refine wp_skip (k3 _ _ ?_)
 refine sr mx [] H (fun _ => .o (Qa (.nilsl (R := Qd)))<|.n) fun _ a w H => ?_
 have H := H.to [0,2] [_,_] [_] rfl rfl
 refine wp_ret ?_
 obtain rfl := sj h
 exact rt undef [0] hpl H (.tmp z0 .nil)

/- (*diorama/dioramaref09.Maker).kind -/
noncomputable def Qbk (m_ : Qv) (l_ : (List Qi)) : Option (Qi × Qv × (List Qi)) := (QA m_ (6:Int)).bind fun t18 => (idx [(0:Int),(1:Int),(2:Int),(4:Int),(1:Int),(2:Int)] t18.1).bind fun t19 => (idx [([112,101,114,115,111,110] : Str),([111,114,100,101,114] : Str),([105,116,101,109] : Str)] (l_.length : Int)).bind fun t23 => (QA t18.2 (5:Int)).bind fun t28 => (QA t28.2 (4:Int)).bind fun t35 => (idx [(0:Int),(1:Int),(100:Int),(-3:Int)] t35.1).bind fun t36 => (rm (([] : List Qc).length + [(Qc.mk ([105,100] : Str) ([] : Str) ([] : Str) (0:Int) t36 (0:Int) ([] : (List Str)) ([] : (List Int)))].length)).bind fun _ => ((if (decide ((l_.length : Int) > (0:Int))) = true then (QA t35.2 (l_.length : Int)).bind fun t46 => (idx l_ t46.1).bind fun t49 => (QA t46.2 (4:Int)).bind fun t54 => (idx [(4:Int),(3:Int),(8:Int),(2:Int)] t54.1).bind fun t55 => (QA t54.2 (5:Int)).bind fun t59 => ((if (t59.1 == (0:Int)) = true then (some (Qc.mk ([111,102] : Str) (t49).Name ([] : Str) (1:Int) (1:Int) t55 ([] : (List Str)) ([] : (List Int)))) else (some (Qc.mk ([111,102] : Str) (t49).Name ([] : Str) (1:Int) (0:Int) t55 ([] : (List Str)) ([] : (List Int)))))).bind fun (p75 : Qc) => (rm ((([] : List Qc) ++ [(Qc.mk ([105,100] : Str) ([] : Str) ([] : Str) (0:Int) t36 (0:Int) ([] : (List Str)) ([] : (List Int)))]).length + [p75].length)).bind fun _ => (idx l_ t46.1).bind fun t70 => (Qdz t70).bind fun t72 => (opt ((decide (t72 ≥ (0:Int))) == true) (QA t59.2 (2:Int)) default).bind fun t77 => ((if ((decide (t72 ≥ (0:Int))) && (t77.1 == (0:Int))) = true then (idx l_ t46.1).bind fun t84 => (idx (t84).Fields t72).bind fun t88 => (rm (((([] : List Qc) ++ [(Qc.mk ([105,100] : Str) ([] : Str) ([] : Str) (0:Int) t36 (0:Int) ([] : (List Str)) ([] : (List Int)))]) ++ [p75]).length + [(Qc.mk ([115,97,109,101] : Str) (t88).Name ([111,102] : Str) (8:Int) (0:Int) (0:Int) ([] : (List Str)) ([] : (List Int)))].length)).bind fun _ => (some (((([] : List Qc) ++ [(Qc.mk ([105,100] : Str) ([] : Str) ([] : Str) (0:Int) t36 (0:Int) ([] : (List Str)) ([] : (List Int)))]) ++ [p75]) ++ [(Qc.mk ([115,97,109,101] : Str) (t88).Name ([111,102] : Str) (8:Int) (0:Int) (0:Int) ([] : (List Str)) ([] : (List Int)))])) else (some ((([] : List Qc) ++ [(Qc.mk ([105,100] : Str) ([] : Str) ([] : Str) (0:Int) t36 (0:Int) ([] : (List Str)) ([] : (List Int)))]) ++ [p75])))).bind fun (p81 : List Qc) => (idx l_ t46.1).bind fun t97 => (Qc9 (t97).Fields ([116,111,116,97,108] : Str)).bind fun t100 => (opt ((decide (t100 < (0:Int))) == true) (QA (bif ((decide (t72 ≥ (0:Int))) == true) then t77.2 else t59.2) (3:Int)) default).bind fun t104 => ((if ((decide (t100 < (0:Int))) && (t104.1 == (0:Int))) = true then (QA (bif ((decide (t100 < (0:Int))) == true) then t104.2 else (bif ((decide (t72 ≥ (0:Int))) == true) then t77.2 else t59.2)) (3:Int)).bind fun t108 => (QA t108.2 (8:Int)).bind fun t114 => (rm (p81.length + [(Qc.mk ([112,97,114,116] : Str) ([116,111,116,97,108] : Str) ([111,102] : Str) (7:Int) t108.1 (IntKind.i64.wrap (t108.1 + t114.1)) ([] : (List Str)) ([] : (List Int)))].length)).bind fun _ => (idx l_ t46.1).bind fun t125 => (rm (([] : List Qc).length + (t125).Fields.length)).bind fun _ => (rm ((([] : List Qc) ++ (t125).Fields).length + [(Qc.mk ([116,111,116,97,108] : Str) t23 ([] : Str) (6:Int) (0:Int) (0:Int) ([] : (List Str)) ([] : (List Int)))].length)).bind fun _ => (idx l_ t46.1).bind fun t134 => (setAt l_ t46.1 { t134 with Fields := ((([] : List Qc) ++ (t125).Fields) ++ [(Qc.mk ([116,111,116,97,108] : Str) t23 ([] : Str) (6:Int) (0:Int) (0:Int) ([] : (List Str)) ([] : (List Int)))]) }).bind fun t134s => (some (t114.2,(p81 ++ [(Qc.mk ([112,97,114,116] : Str) ([116,111,116,97,108] : Str) ([111,102] : Str) (7:Int) t108.1 (IntKind.i64.wrap (t108.1 + t114.1)) ([] : (List Str)) ([] : (List Int)))]),t134s)) else (some ((bif ((decide (t100 < (0:Int))) == true) then t104.2 else (bif ((decide (t72 ≥ (0:Int))) == true) then t77.2 else t59.2)),p81,l_)))).bind fun (p85 : Qv × List Qc × List Qi) => (some (p85.1,p85.2.1,p85.2.2)) else (some (t35.2,(([] : List Qc) ++ [(Qc.mk ([105,100] : Str) ([] : Str) ([] : Str) (0:Int) t36 (0:Int) ([] : (List Str)) ([] : (List Int)))]),l_)))).bind fun (p13 : Qv × List Qc × List Qi) => (opt ((decide ((l_.length : Int) > (1:Int))) == true) (QA p13.1 (3:Int)) default).bind fun t140 => ((if ((decide ((l_.length : Int) > (1:Int))) && (t140.1 == (0:Int))) = true then (idx p13.2.2 (0:Int)).bind fun t146 => (rm (p13.2.1.length + [(Qc.mk ([98,121] : Str) (t146).Name ([] : Str) (1:Int) (0:Int) (8:Int) ([] : (List Str)) ([] : (List Int)))].length)).bind fun _ => (some (p13.2.1 ++ [(Qc.mk ([98,121] : Str) (t146).Name ([] : Str) (1:Int) (0:Int) (8:Int) ([] : (List Str)) ([] : (List Int)))])) else (some p13.2.1))).bind fun (p45 : List Qc) => (QaN (bif ((decide ((l_.length : Int) > (1:Int))) == true) then t140.2 else p13.1)).bind fun t154 => (rm (p45.length + t154.1.length)).bind fun _ => (QA t154.2 (2:Int)).bind fun t161 => ((if (t161.1 == (0:Int)) = true then (QaN t161.2).bind fun t164 => (opt ((decide ((t164.1.length : Int) > (0:Int))) == true) (idx t164.1 (0:Int)) default).bind fun t172 => (opt ((decide ((t164.1.length : Int) > (0:Int))) == true) (Qc9 (p45 ++ t154.1) (t172).Name) default).bind fun t175 => ((if ((decide ((t164.1.length : Int) > (0:Int))) && (decide (t175 < (0:Int)))) = true then (rm ((p45 ++ t154.1).length + t164.1.length)).bind fun _ => (some ((p45 ++ t154.1) ++ t164.1)) else (some (p45 ++ t154.1)))).bind fun (p64 : List Qc) => (some (t164.2,p64)) else (some (t161.2,(p45 ++ t154.1))))).bind fun (p52 : Qv × List Qc) => (some ((Qi.mk t23 t19 (IntKind.i64.wrap (t19 + t28.1)) p52.2),p52.1,p13.2.2))
theorem Qk9 {q0 : Value} {vh1 : Value} {m_ : Qv} {l_ : (List Qi)} {r : Qi × Qv × (List Qi)} (h : Qbk m_ l_ = some r) : FnOk Tryz.prog 33 [tv q0,tv vh1] [box (Qt.cs m_) q0,own Qk 55 l_ vh1] (fun _ => [box (Qt.cs r.2.1) q0,own Qk 55 r.2.2 vh1]) (fun _ => Qk.ty r.1) := by
 unfold Qbk at h
 refine fe Tryz.func33 Tryz.ntmps33 fun M0 M w0 a hpl H => ?_
 replace H : St M w0 184 [(0,tv q0),(1,tv vh1)] [box (Qt.cs m_) q0,own Qk 55 l_ vh1] a w0 := H
 refine sr mx [v1 0 (fun v0 => box (Qk.cs zz1) v0)] H (fun _ => .m [] [2] rfl rfl rfl (Q1 (R := Qk) (a := zz1) Q7 QiY)<|.n) fun n0 a w H => ?_
 have H := H.to [0,1,2] [_,_,_] [_,_,_] rfl rfl
 refine sr mx [] H (fun _ => .q 2 rfl<|.u [1] rfl rfl (Qj6 ud23 z0)<|.o (Qa z0)<|.n) fun _ a w H => ?_
 have H := H.to [0,2,3,4,5] [_,_,_,_,_] [_,_,_] rfl rfl
 have ⟨t18,ht18,h⟩ := bs h
 have ⟨t19,ht19,h⟩ := bs h
 refine sr mx [v0 (box (Qt.cs t18.2) q0)] H (fun _ => .o (QE (R := rI) (us := [(0:Int),(1:Int),(2:Int),(4:Int),(1:Int),(2:Int)]) ud22 tok3 (.cons .k<|.cons .k<|.cons .k<|.cons .k<|.cons .k<|.cons .k<|.nil _) rfl (leb rfl))<|.q 4 rfl<|.e [] [0] [3] rfl rfl rfl rfl (Qh Qas (QB ht18) (.cons (.of z0)<|.cons (.of .k)<|.nil))<|.o (QG ud22 tok3 z2 z0 ht19)<|.o (Qr tok3 z0)<|.o (Qa z0)<|.n) fun _ a w H => ?_
 have H := H.to [5,6,7,8,9,10] [_,_,_,_,_,_] [_,_,_] rfl rfl
 have ⟨t23,ht23,h⟩ := bs h
 have ⟨t28,ht28,h⟩ := bs h
 refine sr mx [v0 (box (Qt.cs t28.2) q0),v1 10 (fun v0 => box (Qk.cs zz1) v0),v1 10 (fun v0 => box ([tv (.string (sB t23)),ti t19,ti (IntKind.i64.wrap (t19 + t28.1)),tvs nilV]) v0)] H (fun _ => .o (QE (R := rS) (us := [([112,101,114,115,111,110] : Str),([111,114,100,101,114] : Str),([105,116,101,109] : Str)]) ud32 tok9 (.cons .k<|.cons .k<|.cons .k<|.nil _) rfl (leb rfl))<|.q 3 rfl<|.o (QG ud32 tok9 z1 z0 ht23)<|.o (Qr tok9 z0)<|.q 4 rfl<|.q 5 rfl<|.q 10 rfl<|.e [] [2] [3] rfl rfl rfl rfl (Qh Qas (QB ht28) (.cons (.of z0)<|.cons (.of .k)<|.nil))<|.o (QV z2 z0)<|.p (T := tagg ([tv (.string (sB t23)),ti t19,ti (IntKind.i64.wrap (t19 + t28.1)),tvs nilV])) rfl (QX Tryz.underlying55 pl55 zv55 (QtR).1 (.cons (R := rS) (u := t23) rfl z5 (leb rfl)<|.cons (R := rI) (u := t19) rfl z4 (leb rfl)<|.cons (R := rI) (u := (IntKind.i64.wrap (t19 + t28.1))) rfl z0 (leb rfl)<|.nil _))<|.m [] [4] rfl rfl rfl (Q1 (R := Qk) (a := zz1) Q7 QiY)<|.e [] [4] [5] rfl rfl rfl rfl (QR (R := (rAgg ([tv (.string (sB t23)),ti t19,ti (IntKind.i64.wrap (t19 + t28.1)),tvs nilV]) (Qy (Q3 rfl) (Qy (Q3 rfl) (Qy (Q3 rfl) (Qy QdW Qal)))))) (a := ()) (tokA Q7 (Qy (Q3 rfl) (Qy (Q3 rfl) (Qy (Q3 rfl) (Qy QdW Qal)))) rfl rfl) z0 z1 (leb rfl))<|.n) fun n3 a w H => ?_
 replace H : St _ _ _ [_,_,_,_,_,_] [_,_,_,_,_] _ _ := (H.pick [10,12,13,14,15,16]).nil (Qd) 61
 refine wp_seq_k (fun _ k10 => ?_)
 have ⟨t35,ht35,h⟩ := bs h
 have ⟨t36,ht36,h⟩ := bs h
 have ⟨u40,hu40,h⟩ := bs h
 refine wr mx [v0 (box (Qt.cs t35.2) q0),v1 9 (fun v0 => own Qd 61 (([] : List Qc) ++ [(Qc.mk ([105,100] : Str) ([] : Str) ([] : Str) (0:Int) t36 (0:Int) ([] : (List Str)) ([] : (List Int)))]) v0),v1 9 (fun v0 => box ([tv (.string (sB t23)),ti t19,ti (IntKind.i64.wrap (t19 + t28.1)),tvs v0]) (n3 10))] H (fun _ => .u [4] rfl rfl (Qz Qap z0)<|.u [4] rfl rfl (Qac (u := nilV) Qd7 z0 rfl)<|.o (QE (R := rI) (us := [(0:Int),(1:Int),(100:Int),(-3:Int)]) ud22 tok3 (.cons .k<|.cons .k<|.cons .k<|.cons .k<|.nil _) rfl (leb rfl))<|.q 7 rfl<|.e [] [3] [5] rfl rfl rfl rfl (Qh Qas (QB ht35) (.cons (.of z0)<|.cons (.of .k)<|.nil))<|.o (QG ud22 tok3 z2 z0 ht36)<|.o (Qr tok3 z0)<|.p (T := Qd.ty (Qc.mk ([105,100] : Str) ([] : Str) ([] : Str) (0:Int) t36 (0:Int) ([] : (List Str)) ([] : (List Int)))) rfl (QX ud61 pl61 zv61 zc61 (.cons (R := rS) (u := ([105,100] : Str)) rfl .k (leb rfl)<|.cons (R := rI) (u := (0:Int)) rfl .k (leb rfl)<|.cons (R := rI) (u := t36) rfl z0 (leb rfl)<|.nil _))<|.o (QE (R := Qd) (us := [(Qc.mk ([105,100] : Str) ([] : Str) ([] : Str) (0:Int) t36 (0:Int) ([] : (List Str)) ([] : (List Int)))]) ud53 QS (.cons z0<|.nil _) rfl (leb rfl))<|.e [] [0] [6] rfl rfl rfl rfl (Qaf (R := Qd) ud53 QS (leb rfl) z7 z0 hu40)<|.u [4] rfl rfl (Qz Qap z10)<|.e [6] [4] [7] rfl rfl rfl rfl (Qa9 (R := Qd) (e := 61) (Ts := ([tv (.string (sB t23)),ti t19,ti (IntKind.i64.wrap (t19 + t28.1)),tvs nilV])) (off := 3) Qd7 z0 z1 (leb rfl))<|.n) fun n4 a w H => ?_
 have H := H.to [9,11,12,13,14,15,16] [_,_,_,_,_,_,_] [_,_,_,_,_] rfl rfl
 refine k10 _ _ ?_
 refine wp_seq_k (fun K11 k11 => ?_)
 refine sr mx [] H (fun _ => .q 3 rfl<|.o (Qcf z0 .k)<|.n) fun _ a w H => ?_
 have H := H.to [1,2,3,4,5,6,7,8] [_,_,_,_,_,_,_,_] [_,_,_,_,_] rfl rfl
 have ⟨p13,hp13,h⟩ := bs h
 have hJp13 : ∀ (v42 : Value) a w,St M w0 184 [(7,tv (n3 10)),(5,ti (l_.length : Int)),(4,tv (n0 0)),(0,tv q0),(1,tv vh1)] [box (Qk.cs zz1) (n0 0),box (Qt.cs p13.1) q0,own Qd 61 p13.2.1 v42,box ([tv (.string (sB t23)),ti t19,ti (IntKind.i64.wrap (t19 + t28.1)),tvs v42]) (n3 10),own Qk 55 p13.2.2 vh1] a w → K11 a w := by
  intro v42 a w H
  refine k11 _ _ ?_
  refine wp_seq_k (fun K43 k43 => ?_)
  have ⟨t140,ht140,h⟩ := bs h
  refine sr mx [v0 (box (Qt.cs (bif ((decide ((l_.length : Int) > (1:Int))) == true) then t140.2 else p13.1)) q0)] H (fun _ => .q 1 rfl<|.o (Qcf z0 .k)<|.q 0 rfl<|.g rfl rfl bq0 (fun _ => Qw z6)<|.ge (N := fun c _ => [box (Qt.cs (bif c then t140.2 else p13.1)) q0]) [] [1] [5] rfl rfl rfl rfl rfl bq1 (fun hc => Qh Qas (QB (Q9 ht140 hc)) (.cons (.of (.cond z0 hc))<|.cons (.of .k)<|.nil)) rfl<|.g rfl rfl bq2 (fun hc => Q4 (.cond z0 hc) .k)<|.o (QY z3 (fun hp => (.cond z0 (beqT hp))))<|.n) fun _ a w H => ?_
  have H := H.to [6,7,9,10,11] [_,_,_,_,_] [_,_,_,_,_] rfl rfl
  have ⟨p45,hp45,h⟩ := bs h
  have hJp45 : ∀ (v47 : Value) a w,St M w0 184 [(7,tv (n3 10)),(4,tv (n0 0)),(0,tv q0),(1,tv vh1)] [box (Qk.cs zz1) (n0 0),own Qk 55 p13.2.2 vh1,box (Qt.cs (bif ((decide ((l_.length : Int) > (1:Int))) == true) then t140.2 else p13.1)) q0,own Qd 61 p45 v47,box ([tv (.string (sB t23)),ti t19,ti (IntKind.i64.wrap (t19 + t28.1)),tvs v47]) (n3 10)] a w → K43 a w := by
   intro v47 a w H
   refine k43 _ _ ?_
   have ⟨t154,ht154,h⟩ := bs h
   refine sr mx [v0 (box (Qt.cs t154.2) q0)] H (fun _ => .q 2 rfl<|.e [] [2] [5] rfl rfl rfl rfl (Qh QsA (Qhz ht154) (.cons (.of z0)<|.nil))<|.o (Qa z0)<|.n) fun _ a w H => ?_
   have H := H.to [2,3,4,5,6] [_,_,_,_,_] [_,_,_,_,_] rfl rfl
   refine wp_seq_k (fun _ k49 => ?_)
   have ⟨u158,hu158,h⟩ := bs h
   refine wr mx [v1 3 (fun v0 => own Qd 61 (p45 ++ t154.1) v0),v1 3 (fun v0 => box ([tv (.string (sB t23)),ti t19,ti (IntKind.i64.wrap (t19 + t28.1)),tvs v0]) (n3 10))] H (fun _ => .u [3] rfl rfl (Qz Qap z1)<|.u [3] rfl rfl (Qac (u := v47) Qd7 z0 rfl)<|.q 2 rfl<|.e [] [2] [5] rfl rfl rfl rfl (Qaf (R := Qd) ud53 QS (leb rfl) z1 z0 hu158)<|.u [3] rfl rfl (Qz Qap z5)<|.e [5] [3] [6] rfl rfl rfl rfl (Qa9 (R := Qd) (e := 61) (Ts := ([tv (.string (sB t23)),ti t19,ti (IntKind.i64.wrap (t19 + t28.1)),tvs v47])) (off := 3) Qd7 z0 z1 (leb rfl))<|.n) fun n21 a w H => ?_
   have H := H.to [3,6,7,8,9] [_,_,_,_,_] [_,_,_,_,_] rfl rfl
   refine k49 _ _ ?_
   refine wp_seq_k (fun K50 k50 => ?_)
   have ⟨t161,ht161,h⟩ := bs h
   refine sr mx [v0 (box (Qt.cs t161.2) q0)] H (fun _ => .q 3 rfl<|.e [] [2] [5] rfl rfl rfl rfl (Qh Qas (QB ht161) (.cons (.of z0)<|.cons (.of .k)<|.nil))<|.o (Q4 z0 .k)<|.n) fun _ a w H => ?_
   have H := H.to [2,3,4,5,6,7] [_,_,_,_,_,_] [_,_,_,_,_] rfl rfl
   have ⟨p52,hp52,h⟩ := bs h
   have hJp52 : ∀ (v60 : Value) a w,St M w0 184 [(7,tv (n3 10)),(4,tv (n0 0)),(0,tv q0),(1,tv vh1)] [box (Qk.cs zz1) (n0 0),own Qk 55 p13.2.2 vh1,box (Qt.cs p52.1) q0,own Qd 61 p52.2 v60,box ([tv (.string (sB t23)),ti t19,ti (IntKind.i64.wrap (t19 + t28.1)),tvs v60]) (n3 10)] a w → K50 a w := by
    intro v60 a w H
    refine k50 _ _ ?_
    refine wp_seq_k (fun _ k61 => ?_)
    replace H : St _ _ _ [_,_,_,_] [_,_,_,_] _ _ := ((H.pick [0,1,2,3]).selA [3,4,0,1,2] rfl).shareC 3 rfl
    refine wr mx [v0 (box (Qk.cs (Qi.mk t23 t19 (IntKind.i64.wrap (t19 + t28.1)) p52.2)) (n0 0))] H (fun _ => .u [0] rfl rfl (Qdy (R := Qk) (u := (Qi.mk t23 t19 (IntKind.i64.wrap (t19 + t28.1)) p52.2)) Q7 z0 rfl)<|.e [] [1] [4] rfl rfl rfl rfl (QR (R := Qk) (a := (Qi.mk t23 t19 (IntKind.i64.wrap (t19 + t28.1)) p52.2)) Q7 z2 z0 (leb rfl))<|.n) fun _ a w H => ?_
    replace H : St _ _ _ [_,_,_] [_,_,_] _ _ := (H.pick [2,3,4]).selA [1,2,3] rfl
    refine k61 _ _ ?_
    refine wp_ret ?_
    obtain rfl := sj h
    exact rt undef [1,0] hpl H (.cell (R := Qk) (u := (Qi.mk t23 t19 (IntKind.i64.wrap (t19 + t28.1)) p52.2)) Q7 z0 2 rfl rfl .nil)
   replace h := hp52
   clear hp52
   refine wi H h (fun b68 h => ?_) (fun b68 h => ?_)
   ·have ⟨t164,ht164,h⟩ := bs h
    refine sr mx [v0 (box (Qt.cs t164.2) q0)] H (fun _ => .q 4 rfl<|.e [] [4] [5] rfl rfl rfl rfl (Qh QsA (Qhz ht164) (.cons (.of z0)<|.nil))<|.o (Qa z0)<|.n) fun _ a w H => ?_
    have H := H.to [2,4,5,6,7,8] [_,_,_,_,_,_] [_,_,_,_,_] rfl rfl
    have ⟨t172,ht172,h⟩ := bs h
    have ⟨t175,ht175,h⟩ := bs h
    refine sr mx [] H (fun _ => .q 0 rfl<|.o (QN ud53 z0)<|.o (Qcf z0 .k)<|.q 0 rfl<|.gu [3] rfl rfl rfl bq0 (fun _ => Qz Qap z6)<|.gu [3] rfl rfl rfl bq1 (fun hc => Qac (u := (n21 3)) Qd7 (.cond z0 hc) rfl)<|.g rfl rfl bq2 (fun _ => Qw z6)<|.g rfl rfl bq3 (fun hc => QG ud53 QS (.cond z0 hc) .k (Q9 ht172 hc))<|.g rfl rfl bq4 (fun hc => Qe Qce (.cond z0 hc))<|.g rfl rfl bq5 (fun hc => Qf (u := (t172).Name) tok9 (.cond z0 hc) rfl)<|.gu [2] rfl rfl rfl bq6 (fun hc => Qg8 [own Qd 61 (p45 ++ t154.1) (n21 3)] Qnz (Qhy (Q9 ht175 hc)) (.cons (.own (.cond z4 hc) (.head _))<|.cons (.of (.cond z0 hc))<|.nil) (fun _ => Qg7) (fun _ => Qlp (x := undef)))<|.g rfl rfl bq7 (fun hc => QU (.cond z0 hc) .k)<|.o (QY z8 (fun hp => (.cond z0 (beqT hp))))<|.n) fun _ a w H => ?_
    have H := H.to [12,13,14,15,16,17,18] [_,_,_,_,_,_,_] [_,_,_,_,_] rfl rfl
    have ⟨p64,hp64,h⟩ := bs h
    have hJp64 : ∀ (v66 : Value) a w,St M w0 184 [(7,tv (n3 10)),(4,tv (n0 0)),(0,tv q0),(1,tv vh1)] [box (Qk.cs zz1) (n0 0),own Qk 55 p13.2.2 vh1,box (Qt.cs t164.2) q0,own Qd 61 p64 v66,box ([tv (.string (sB t23)),ti t19,ti (IntKind.i64.wrap (t19 + t28.1)),tvs v66]) (n3 10)] a w → K50 a w := by
     intro v66 a w H
     obtain rfl := sj h
     exact hJp52 v66 _ _ (H.pick [0,1,2,3])
    replace h := hp64
    clear hp64
    refine wi H h (fun b67 h => ?_) (fun b67 h => ?_)
    ·have ⟨u181,hu181,h⟩ := bs h
     refine wr mx [v1 3 (fun v0 => own Qd 61 ((p45 ++ t154.1) ++ t164.1) v0),v1 3 (fun v0 => box ([tv (.string (sB t23)),ti t19,ti (IntKind.i64.wrap (t19 + t28.1)),tvs v0]) (n3 10))] H (fun _ => .u [3] rfl rfl (Qz Qap z3)<|.u [3] rfl rfl (Qac (u := (n21 3)) Qd7 z0 rfl)<|.q 3 rfl<|.e [] [2] [5] rfl rfl rfl rfl (Qaf (R := Qd) ud53 QS (leb rfl) z1 z0 hu181)<|.u [3] rfl rfl (Qz Qap z7)<|.e [5] [3] [6] rfl rfl rfl rfl (Qa9 (R := Qd) (e := 61) (Ts := ([tv (.string (sB t23)),ti t19,ti (IntKind.i64.wrap (t19 + t28.1)),tvs (n21 3)])) (off := 3) Qd7 z0 z1 (leb rfl))<|.n) fun n25 a w H => ?_
     have H := H.to [3,8,9,10,11] [_,_,_,_,_] [_,_,_,_,_] rfl rfl
     obtain rfl := sj h
     exact hJp64 (n25 3) _ _ (H.pick [1,2,3,4])
    refine wp_skip ?_
    obtain rfl := sj h
    exact hJp64 (n21 3) _ _ ((H.pick [3,4,5,6]).selA [0,1,4,2,3] rfl)
   refine wp_skip ?_
   obtain rfl := sj h
   exact hJp52 (n21 3) _ _ ((H.pick [2,3,4,5]).selA [0,1,4,2,3] rfl)
  replace h := hp45
  clear hp45
  refine wi H h (fun b69 h => ?_) (fun b69 h => ?_)
  ·have ⟨t146,ht146,h⟩ := bs h
   have ⟨u151,hu151,h⟩ := bs h
   refine wr mx [v1 8 (fun v0 => own Qd 61 (p13.2.1 ++ [(Qc.mk ([98,121] : Str) (t146).Name ([] : Str) (1:Int) (0:Int) (8:Int) ([] : (List Str)) ([] : (List Int)))]) v0),v1 8 (fun v0 => box ([tv (.string (sB t23)),ti t19,ti (IntKind.i64.wrap (t19 + t28.1)),tvs v0]) (n3 10))] H (fun _ => .u [2] rfl rfl (Qz Qap z1)<|.u [2] rfl rfl (Qac (u := v42) Qd7 z0 rfl)<|.q 6 rfl<|.u [3] rfl rfl (Qcl ud23 Q7 z0 .k ht146)<|.u [3] rfl rfl (Qew QcY z0 (Qhn ht146))<|.u [3] rfl rfl (Qhb (R2 := rS) (f := (t146).Name) tok9 z0 ht146 rfl)<|.p (T := Qd.ty (Qc.mk ([98,121] : Str) (t146).Name ([] : Str) (1:Int) (0:Int) (8:Int) ([] : (List Str)) ([] : (List Int)))) rfl (QX ud61 pl61 zv61 zc61 (.cons (R := rS) (u := ([98,121] : Str)) rfl .k (leb rfl)<|.cons (R := rI) (u := (1:Int)) rfl .k (leb rfl)<|.cons (R := rS) (u := (t146).Name) rfl z0 (leb rfl)<|.cons (R := rI) (u := (8:Int)) rfl .k (leb rfl)<|.nil _))<|.o (QE (R := Qd) (us := [(Qc.mk ([98,121] : Str) (t146).Name ([] : Str) (1:Int) (0:Int) (8:Int) ([] : (List Str)) ([] : (List Int)))]) ud53 QS (.cons z0<|.nil _) rfl (leb rfl))<|.e [] [1] [5] rfl rfl rfl rfl (Qaf (R := Qd) ud53 QS (leb rfl) z6 z0 hu151)<|.u [2] rfl rfl (Qz Qap z10)<|.e [5] [2] [6] rfl rfl rfl rfl (Qa9 (R := Qd) (e := 61) (Ts := ([tv (.string (sB t23)),ti t19,ti (IntKind.i64.wrap (t19 + t28.1)),tvs v42])) (off := 3) Qd7 z0 z1 (leb rfl))<|.n) fun n19 a w H => ?_
   have H := H.to [2,8,11,12,13,14] [_,_,_,_,_,_] [_,_,_,_,_] rfl rfl
   obtain rfl := sj h
   exact hJp45 (n19 8) _ _ (H.pick [2,3,4,5])
  refine wp_skip ?_
  obtain rfl := sj h
  exact hJp45 v42 _ _ ((H.pick [1,2,3,4]).selA [0,3,4,1,2] rfl)
 replace h := hp13
 clear hp13
 refine wi H h (fun b97 h => ?_) (fun b97 h => ?_)
 ·have ⟨t46,ht46,h⟩ := bs h
  refine sr mx [v0 (box (Qt.cs t46.2) q0)] H (fun _ => .q 6 rfl<|.q 5 rfl<|.e [] [2] [5] rfl rfl rfl rfl (Qh Qas (QB ht46) (.cons (.of z1)<|.cons (.of z0)<|.nil))<|.o (Qa z0)<|.n) fun _ a w H => ?_
  have H := H.to [3,5,6,7,8,9,10,11] [_,_,_,_,_,_,_,_] [_,_,_,_,_] rfl rfl
  have ⟨t49,ht49,h⟩ := bs h
  have ⟨t54,ht54,h⟩ := bs h
  have ⟨t55,ht55,h⟩ := bs h
  refine sr mx [v0 (box (Qt.cs t54.2) q0),v1 11 (fun v0 => box (Qd.cs zz0) v0),v1 11 (fun v0 => box (Qd.cs (Qc.mk ([111,102] : Str) (t49).Name ([] : Str) (1:Int) (0:Int) t55 ([] : (List Str)) ([] : (List Int)))) v0)] H (fun _ => .q 7 rfl<|.q 1 rfl<|.u [0] rfl rfl (Qcl ud23 Q7 z1 z0 ht49)<|.u [0] rfl rfl (Qew QcY z0 (Qhn ht49))<|.u [0] rfl rfl (Qhb (R2 := rS) (f := (t49).Name) tok9 z0 ht49 rfl)<|.o (QE (R := rI) (us := [(4:Int),(3:Int),(8:Int),(2:Int)]) ud22 tok3 (.cons .k<|.cons .k<|.cons .k<|.cons .k<|.nil _) rfl (leb rfl))<|.q 12 rfl<|.e [] [4] [5] rfl rfl rfl rfl (Qh Qas (QB ht54) (.cons (.of z0)<|.cons (.of .k)<|.nil))<|.o (QG ud22 tok3 z2 z0 ht55)<|.o (Qr tok3 z0)<|.p (T := Qd.ty (Qc.mk ([111,102] : Str) (t49).Name ([] : Str) (1:Int) (0:Int) t55 ([] : (List Str)) ([] : (List Int)))) rfl (QX ud61 pl61 zv61 zc61 (.cons (R := rS) (u := ([111,102] : Str)) rfl .k (leb rfl)<|.cons (R := rI) (u := (1:Int)) rfl .k (leb rfl)<|.cons (R := rS) (u := (t49).Name) rfl z5 (leb rfl)<|.cons (R := rI) (u := t55) rfl z0 (leb rfl)<|.nil _))<|.m [] [6] rfl rfl rfl (Q1 (R := Qd) (a := zz0) QS Qeh)<|.e [] [6] [7] rfl rfl rfl rfl (QR (R := Qd) (a := (Qc.mk ([111,102] : Str) (t49).Name ([] : Str) (1:Int) (0:Int) t55 ([] : (List Str)) ([] : (List Int)))) QS z0 z1 (leb rfl))<|.n) fun n7 a w H => ?_
  have H := H.to [0,11,12,13,14,15,16,17,18,19] [_,_,_,_,_,_,_,_,_,_] [_,_,_,_,_,_] rfl rfl
  refine wp_seq_k (fun K73 k73 => ?_)
  have ⟨t59,ht59,h⟩ := bs h
  refine sr mx [v0 (box (Qt.cs t59.2) q0)] H (fun _ => .q 8 rfl<|.e [] [4] [6] rfl rfl rfl rfl (Qh Qas (QB ht59) (.cons (.of z0)<|.cons (.of .k)<|.nil))<|.o (Q4 z0 .k)<|.n) fun _ a w H => ?_
  have H := H.to [2,3,4,5,6,7,8,9,10,11,12] [_,_,_,_,_,_,_,_,_,_,_] [_,_,_,_,_,_] rfl rfl
  have ⟨p75,hp75,h⟩ := bs h
  have hJp75 : ∀ a w,St M w0 184 [(9,tv (n7 11)),(8,ti t46.1),(7,tv (n3 10)),(5,ti (l_.length : Int)),(4,tv (n0 0)),(0,tv q0),(1,tv vh1)] [own Qk 55 l_ vh1,box (Qk.cs zz1) (n0 0),own Qd 61 (([] : List Qc) ++ [(Qc.mk ([105,100] : Str) ([] : Str) ([] : Str) (0:Int) t36 (0:Int) ([] : (List Str)) ([] : (List Int)))]) (n4 9),box ([tv (.string (sB t23)),ti t19,ti (IntKind.i64.wrap (t19 + t28.1)),tvs (n4 9)]) (n3 10),box (Qt.cs t59.2) q0,box (Qd.cs p75) (n7 11)] a w → K73 a w := by
   intro a w H
   refine k73 _ _ ?_
   refine wp_seq_k (fun _ k77 => ?_)
   have ⟨u66,hu66,h⟩ := bs h
   refine wr mx [v1 4 (fun v0 => own Qd 61 ((([] : List Qc) ++ [(Qc.mk ([105,100] : Str) ([] : Str) ([] : Str) (0:Int) t36 (0:Int) ([] : (List Str)) ([] : (List Int)))]) ++ [p75]) v0),v1 4 (fun v0 => box ([tv (.string (sB t23)),ti t19,ti (IntKind.i64.wrap (t19 + t28.1)),tvs v0]) (n3 10))] H (fun _ => .u [3] rfl rfl (Qz Qap z2)<|.u [3] rfl rfl (Qac (u := (n4 9)) Qd7 z0 rfl)<|.u [5] rfl rfl (Qdy (R := Qd) (u := p75) QS z2 rfl)<|.o (QE (R := Qd) (us := [p75]) ud53 QS (.cons z0<|.nil _) rfl (leb rfl))<|.e [] [2] [6] rfl rfl rfl rfl (Qaf (R := Qd) ud53 QS (leb rfl) z2 z0 hu66)<|.u [3] rfl rfl (Qz Qap z7)<|.e [6] [3] [7] rfl rfl rfl rfl (Qa9 (R := Qd) (e := 61) (Ts := ([tv (.string (sB t23)),ti t19,ti (IntKind.i64.wrap (t19 + t28.1)),tvs (n4 9)])) (off := 3) Qd7 z0 z1 (leb rfl))<|.n) fun n10 a w H => ?_
   replace H : St _ _ _ [_,_,_,_,_,_,_] [_,_,_,_,_] _ _ := (H.pick [4,7,8,9,10,11,12]).selA [0,1,2,4,5] rfl
   refine k77 _ _ ?_
   have ⟨t70,ht70,h⟩ := bs h
   have ⟨t72,ht72,h⟩ := bs h
   refine sr mx [] H (fun _ => .q 6 rfl<|.q 2 rfl<|.u [0] rfl rfl (Qcl ud23 Q7 z1 z0 ht70)<|.u [0] rfl rfl (QmJ Q7 z0 ht70)<|.o (Qh call70 (QnB ht72) (.cons (.of z0)<|.nil))<|.o (Qa z0)<|.n) fun _ a w H => ?_
   have H := H.to [0,5,6,7,8,9,10,11,12] [_,_,_,_,_,_,_,_,_] [_,_,_,_,_] rfl rfl
   refine wp_seq_k (fun K79 k79 => ?_)
   have ⟨t77,ht77,h⟩ := bs h
   refine sr mx [v0 (box (Qt.cs (bif ((decide (t72 ≥ (0:Int))) == true) then t77.2 else t59.2)) q0)] H (fun _ => .q 1 rfl<|.o (QaY z0 .k)<|.q 0 rfl<|.g rfl rfl bq0 (fun _ => Qw z10)<|.ge (N := fun c _ => [box (Qt.cs (bif c then t77.2 else t59.2)) q0]) [] [2] [5] rfl rfl rfl rfl rfl bq1 (fun hc => Qh Qas (QB (Q9 ht77 hc)) (.cons (.of (.cond z0 hc))<|.cons (.of .k)<|.nil)) rfl<|.g rfl rfl bq2 (fun hc => Q4 (.cond z0 hc) .k)<|.o (QY z3 (fun hp => (.cond z0 (beqT hp))))<|.n) fun _ a w H => ?_
   have H := H.to [6,7,8,9,10,11,12,13,14,15] [_,_,_,_,_,_,_,_,_,_] [_,_,_,_,_] rfl rfl
   have ⟨p81,hp81,h⟩ := bs h
   have hJp81 : ∀ (v83 : Value) a w,St M w0 184 [(8,ti t46.1),(7,tv (n3 10)),(5,ti (l_.length : Int)),(4,tv (n0 0)),(0,tv q0),(1,tv vh1)] [own Qk 55 l_ vh1,box (Qk.cs zz1) (n0 0),box (Qt.cs (bif ((decide (t72 ≥ (0:Int))) == true) then t77.2 else t59.2)) q0,own Qd 61 p81 v83,box ([tv (.string (sB t23)),ti t19,ti (IntKind.i64.wrap (t19 + t28.1)),tvs v83]) (n3 10)] a w → K79 a w := by
    intro v83 a w H
    refine k79 _ _ ?_
    have ⟨t97,ht97,h⟩ := bs h
    have ⟨t100,ht100,h⟩ := bs h
    have ⟨t104,ht104,h⟩ := bs h
    refine sr mx [v0 (box (Qt.cs (bif ((decide (t100 < (0:Int))) == true) then t104.2 else (bif ((decide (t72 ≥ (0:Int))) == true) then t77.2 else t59.2))) q0)] H (fun _ => .q 5 rfl<|.q 1 rfl<|.u [0] rfl rfl (Qcl ud23 Q7 z1 z0 ht97)<|.u [0] rfl rfl (Qew Qap z0 (Qhn ht97))<|.u [0] rfl rfl (Qhb (R2 := (rSl Qd)) (f := (t97).Fields) Qc8 z0 ht97 rfl)<|.o (Qh Qnz (Qhy ht100) (.cons (.of z0)<|.cons (.of .k)<|.nil))<|.o (QU z0 .k)<|.q 0 rfl<|.g rfl rfl bq0 (fun _ => Qw z12)<|.ge (N := fun c _ => [box (Qt.cs (bif c then t104.2 else (bif ((decide (t72 ≥ (0:Int))) == true) then t77.2 else t59.2))) q0]) [] [2] [5] rfl rfl rfl rfl rfl bq1 (fun hc => Qh Qas (QB (Q9 ht104 hc)) (.cons (.of (.cond z0 hc))<|.cons (.of .k)<|.nil)) rfl<|.g rfl rfl bq2 (fun hc => Q4 (.cond z0 hc) .k)<|.o (QY z3 (fun hp => (.cond z0 (beqT hp))))<|.n) fun _ a w H => ?_
    have H := H.to [0,11,12,13,14,15,16,17] [_,_,_,_,_,_,_,_] [_,_,_,_,_] rfl rfl
    have ⟨p85,hp85,h⟩ := bs h
    have hJp85 : ∀ (v90 : Value) a w,St M w0 184 [(7,tv (n3 10)),(5,ti (l_.length : Int)),(4,tv (n0 0)),(0,tv q0),(1,tv vh1)] [box (Qk.cs zz1) (n0 0),box (Qt.cs p85.1) q0,own Qd 61 p85.2.1 v90,box ([tv (.string (sB t23)),ti t19,ti (IntKind.i64.wrap (t19 + t28.1)),tvs v90]) (n3 10),own Qk 55 p85.2.2 vh1] a w → K11 a w := by
     intro v90 a w H
     obtain rfl := sj h
     exact hJp13 v90 _ _ (H.pick [0,1,2,3,4])
    replace h := hp85
    clear hp85
    refine Qn0 1 H rfl (fun b94 => ?_) (fun b94 => ?_)
    ·replace h := QlZ b94 h
     have ⟨t108,ht108,h⟩ := bs h
     refine sr mx [v0 (box (Qt.cs t108.2) q0)] H (fun _ => .q 6 rfl<|.e [] [4] [5] rfl rfl rfl rfl (Qh Qas (QB ht108) (.cons (.of z0)<|.cons (.of .k)<|.nil))<|.o (Qa z0)<|.n) fun _ a w H => ?_
     have H := H.to [2,3,5,6,7,8,9,10] [_,_,_,_,_,_,_,_] [_,_,_,_,_] rfl rfl
     refine wp_seq_k (fun _ k92 => ?_)
     have ⟨t114,ht114,h⟩ := bs h
     have ⟨u118,hu118,h⟩ := bs h
     refine wr mx [v0 (box (Qt.cs t114.2) q0),v1 9 (fun v0 => own Qd 61 (p81 ++ [(Qc.mk ([112,97,114,116] : Str) ([116,111,116,97,108] : Str) ([111,102] : Str) (7:Int) t108.1 (IntKind.i64.wrap (t108.1 + t114.1)) ([] : (List Str)) ([] : (List Int)))]) v0),v1 9 (fun v0 => box ([tv (.string (sB t23)),ti t19,ti (IntKind.i64.wrap (t19 + t28.1)),tvs v0]) (n3 10))] H (fun _ => .u [3] rfl rfl (Qz Qap z3)<|.u [3] rfl rfl (Qac (u := v83) Qd7 z0 rfl)<|.q 2 rfl<|.q 3 rfl<|.q 10 rfl<|.e [] [4] [5] rfl rfl rfl rfl (Qh Qas (QB ht114) (.cons (.of z0)<|.cons (.of .k)<|.nil))<|.o (QV z2 z0)<|.p (T := Qd.ty (Qc.mk ([112,97,114,116] : Str) ([116,111,116,97,108] : Str) ([111,102] : Str) (7:Int) t108.1 (IntKind.i64.wrap (t108.1 + t114.1)) ([] : (List Str)) ([] : (List Int)))) rfl (QX ud61 pl61 zv61 zc61 (.cons (R := rS) (u := ([112,97,114,116] : Str)) rfl .k (leb rfl)<|.cons (R := rI) (u := (7:Int)) rfl .k (leb rfl)<|.cons (R := rS) (u := ([111,102] : Str)) rfl .k (leb rfl)<|.cons (R := rS) (u := ([116,111,116,97,108] : Str)) rfl .k (leb rfl)<|.cons (R := rI) (u := t108.1) rfl z4 (leb rfl)<|.cons (R := rI) (u := (IntKind.i64.wrap (t108.1 + t114.1))) rfl z0 (leb rfl)<|.nil _))<|.o (QE (R := Qd) (us := [(Qc.mk ([112,97,114,116] : Str) ([116,111,116,97,108] : Str) ([111,102] : Str) (7:Int) t108.1 (IntKind.i64.wrap (t108.1 + t114.1)) ([] : (List Str)) ([] : (List Int)))]) ud53 QS (.cons z0<|.nil _) rfl (leb rfl))<|.e [] [2] [6] rfl rfl rfl rfl (Qaf (R := Qd) ud53 QS (leb rfl) z7 z0 hu118)<|.u [3] rfl rfl (Qz Qap z13)<|.e [6] [3] [7] rfl rfl rfl rfl (Qa9 (R := Qd) (e := 61) (Ts := ([tv (.string (sB t23)),ti t19,ti (IntKind.i64.wrap (t19 + t28.1)),tvs v83])) (off := 3) Qd7 z0 z1 (leb rfl))<|.n) fun n16 a w H => ?_
     have H := H.to [9,12,13,14,15,16,17,18] [_,_,_,_,_,_,_,_] [_,_,_,_,_] rfl rfl
     refine k92 _ _ ?_
     have ⟨t125,ht125,h⟩ := bs h
     have ⟨u128,hu128,h⟩ := bs h
     have ⟨u133,hu133,h⟩ := bs h
     have ⟨t134,ht134,h⟩ := bs h
     have ⟨t134s,ht134s,h⟩ := bs h
     refine wr mx [v1 2 (fun v0 => own Qd 61 ([] : List Qc) v0),v1 8 (fun v0 => own Qd 61 (([] : List Qc) ++ (t125).Fields) v0),v0 (own Qk 55 t134s vh1)] H (fun _ => .q 7 rfl<|.q 3 rfl<|.m [] [5] rfl rfl rfl (QgE (R := Qd) (us := ([] : List Qc)) ud53 QS (.nil _) rfl (leb rfl) (leb rfl))<|.q 10 rfl<|.q 6 rfl<|.u [0] rfl rfl (Qcl ud23 Q7 z1 z0 ht125)<|.u [0] rfl rfl (Qew Qap z0 (Qhn ht125))<|.u [0] rfl rfl (Qhb (R2 := (rSl Qd)) (f := (t125).Fields) Qc8 z0 ht125 rfl)<|.e [] [5] [6] rfl rfl rfl rfl (Qaf (R := Qd) ud53 QS (leb rfl) z5 z0 hu128)<|.u [4] rfl rfl (Qz QcY z12)<|.u [4] rfl rfl (QaM (R := rS) (u := t23) tok9 z0 rfl)<|.p (T := Qd.ty (Qc.mk ([116,111,116,97,108] : Str) t23 ([] : Str) (6:Int) (0:Int) (0:Int) ([] : (List Str)) ([] : (List Int)))) rfl (QX ud61 pl61 zv61 zc61 (.cons (R := rS) (u := ([116,111,116,97,108] : Str)) rfl .k (leb rfl)<|.cons (R := rI) (u := (6:Int)) rfl .k (leb rfl)<|.cons (R := rS) (u := t23) rfl z0 (leb rfl)<|.nil _))<|.o (QE (R := Qd) (us := [(Qc.mk ([116,111,116,97,108] : Str) t23 ([] : Str) (6:Int) (0:Int) (0:Int) ([] : (List Str)) ([] : (List Int)))]) ud53 QS (.cons z0<|.nil _) rfl (leb rfl))<|.e [] [6] [] rfl rfl rfl rfl (.roE (Qaf (R := Qd) ud53 QS (leb rfl) z4 z0 hu133))<|.u [0] rfl rfl (Qcl ud23 Q7 z13 z12 ht134)<|.u [0] rfl rfl (Qew Qap z0 (Qhn ht134))<|.e [] [0] [7] rfl rfl rfl rfl (QkF (u := { t134 with Fields := ((([] : List Qc) ++ (t125).Fields) ++ [(Qc.mk ([116,111,116,97,108] : Str) t23 ([] : Str) (6:Int) (0:Int) (0:Int) ([] : (List Str)) ([] : (List Int)))]) }) Qc8 z0 z2 ht134 ht134s (leb rfl) rfl)<|.n) fun _ a w H => ?_
     have H := H.to [0,3,16,17,19,20,21,22,23] [_,_,_,_,_,_,_,_,_] [_,_,_,_,_] rfl rfl
     obtain rfl := sj h
     exact hJp85 (n16 9) _ _ (H.pick [4,5,6,7,8])
    replace h := Ql0 b94 h
    refine wp_skip ?_
    obtain rfl := sj h
    exact hJp85 v83 _ _ ((H.pick [3,4,5,6,7]).selA [1,4,2,3,0] rfl)
   replace h := hp81
   clear hp81
   refine wi H h (fun b95 h => ?_) (fun b95 h => ?_)
   ·have ⟨t84,ht84,h⟩ := bs h
    have ⟨t88,ht88,h⟩ := bs h
    have ⟨u93,hu93,h⟩ := bs h
    refine wr mx [v1 13 (fun v0 => own Qd 61 (((([] : List Qc) ++ [(Qc.mk ([105,100] : Str) ([] : Str) ([] : Str) (0:Int) t36 (0:Int) ([] : (List Str)) ([] : (List Int)))]) ++ [p75]) ++ [(Qc.mk ([115,97,109,101] : Str) (t88).Name ([111,102] : Str) (8:Int) (0:Int) (0:Int) ([] : (List Str)) ([] : (List Int)))]) v0),v1 13 (fun v0 => box ([tv (.string (sB t23)),ti t19,ti (IntKind.i64.wrap (t19 + t28.1)),tvs v0]) (n3 10))] H (fun _ => .u [3] rfl rfl (Qz Qap z5)<|.u [3] rfl rfl (Qac (u := (n10 4)) Qd7 z0 rfl)<|.q 11 rfl<|.q 7 rfl<|.u [0] rfl rfl (Qcl ud23 Q7 z1 z0 ht84)<|.u [0] rfl rfl (Qew Qap z0 (Qhn ht84))<|.u [0] rfl rfl (Qhb (R2 := (rSl Qd)) (f := (t84).Fields) Qc8 z0 ht84 rfl)<|.q 9 rfl<|.o (QG ud53 QS z1 z0 ht88)<|.o (Qe Qce z0)<|.o (Qf (u := (t88).Name) tok9 z0 rfl)<|.p (T := Qd.ty (Qc.mk ([115,97,109,101] : Str) (t88).Name ([111,102] : Str) (8:Int) (0:Int) (0:Int) ([] : (List Str)) ([] : (List Int)))) rfl (QX ud61 pl61 zv61 zc61 (.cons (R := rS) (u := ([115,97,109,101] : Str)) rfl .k (leb rfl)<|.cons (R := rI) (u := (8:Int)) rfl .k (leb rfl)<|.cons (R := rS) (u := ([111,102] : Str)) rfl .k (leb rfl)<|.cons (R := rS) (u := (t88).Name) rfl z0 (leb rfl)<|.nil _))<|.o (QE (R := Qd) (us := [(Qc.mk ([115,97,109,101] : Str) (t88).Name ([111,102] : Str) (8:Int) (0:Int) (0:Int) ([] : (List Str)) ([] : (List Int)))]) ud53 QS (.cons z0<|.nil _) rfl (leb rfl))<|.e [] [2] [5] rfl rfl rfl rfl (Qaf (R := Qd) ud53 QS (leb rfl) z11 z0 hu93)<|.u [3] rfl rfl (Qz Qap z19)<|.e [5] [3] [6] rfl rfl rfl rfl (Qa9 (R := Qd) (e := 61) (Ts := ([tv (.string (sB t23)),ti t19,ti (IntKind.i64.wrap (t19 + t28.1)),tvs (n10 4)])) (off := 3) Qd7 z0 z1 (leb rfl))<|.n) fun n13 a w H => ?_
    have H := H.to [2,13,16,19,20,21,22,23,24] [_,_,_,_,_,_,_,_,_] [_,_,_,_,_] rfl rfl
    obtain rfl := sj h
    exact hJp81 (n13 13) _ _ (H.pick [3,4,5,6,7,8])
   refine wp_skip ?_
   obtain rfl := sj h
   exact hJp81 (n10 4) _ _ ((H.pick [4,5,6,7,8,9]).selA [0,1,4,2,3] rfl)
  replace h := hp75
  clear hp75
  refine wi H h (fun b96 h => ?_) (fun b96 h => ?_)
  ·refine wr mx [v0 (box (Qd.cs (Qc.mk ([111,102] : Str) (t49).Name ([] : Str) (1:Int) (1:Int) t55 ([] : (List Str)) ([] : (List Int)))) (n7 11))] H (fun _ => .u [4] rfl rfl (Qz Qbd z2)<|.e [] [4] [6] rfl rfl rfl rfl (Qav (R := rI) (a := (1:Int)) (Ts := (Qd.cs (Qc.mk ([111,102] : Str) (t49).Name ([] : Str) (1:Int) (0:Int) t55 ([] : (List Str)) ([] : (List Int))))) (off := 4) tok3 z0 .k (leb rfl))<|.n) fun _ a w H => ?_
   have H := H.to [2,3,4,5,6,7,8,9,10,11] [_,_,_,_,_,_,_,_,_,_] [_,_,_,_,_,_] rfl rfl
   obtain rfl := sj h
   exact hJp75 _ _ (H.pick [1,2,4,6,7,8,9])
  refine wp_skip ?_
  obtain rfl := sj h
  exact hJp75 _ _ ((H.pick [2,3,5,7,8,9,10]).selA [0,1,2,3,5,4] rfl)
 refine wp_skip ?_
 obtain rfl := sj h
 exact hJp13 (n4 9) _ _ ((H.pick [2,4,5,6,7]).selA [1,2,3,4,0] rfl)

/- (*diorama/dioramaref09.Maker).rule -/
noncomputable def Qbl (m_ : Qv) (k_ : Qi) : Option (Qo × Bool × Qv) := (Qc9 (k_).Fields ([108,111,119] : Str)).bind fun t11 => (Qc9 (k_).Fields ([115,105,122,101] : Str)).bind fun t14 => (opt ((decide (t11 ≥ (0:Int))) == true) (QA m_ (3:Int)) default).bind fun t19 => (if ((decide (t11 ≥ (0:Int))) && (decide (t19.1 > (0:Int)))) = true then (sub (k_).Name (0:Int) (1:Int)).bind fun t24 => (cat (([111,114,100,101,114] : Str).length + t24.length)).bind fun _ => (QA (bif ((decide (t11 ≥ (0:Int))) == true) then t19.2 else m_) (8:Int)).bind fun t29 => (some ((Qo.mk (([111,114,100,101,114] : Str) ++ t24) (k_).Name ([108,111,119] : Str) ([104,105,103,104] : Str) (IntKind.i64.wrap (t29.1 - (2:Int)))),true,t29.2)) else (if (decide (t14 < (0:Int))) = true then (some (zz3,false,(bif ((decide (t11 ≥ (0:Int))) == true) then t19.2 else m_))) else (idx (k_).Fields t14).bind fun t38 => (QA (bif ((decide (t11 ≥ (0:Int))) == true) then t19.2 else m_) (2:Int)).bind fun t41 => (if (t41.1 == (0:Int)) = true then (sub (k_).Name (0:Int) (1:Int)).bind fun t45 => (cat (([109,111,115,116] : Str).length + t45.length)).bind fun _ => (QA t41.2 (12:Int)).bind fun t52 => (some ((Qo.mk (([109,111,115,116] : Str) ++ t45) (k_).Name ([115,105,122,101] : Str) ([] : Str) (IntKind.i64.wrap ((t38).Lo + t52.1))),true,t52.2)) else (sub (k_).Name (0:Int) (1:Int)).bind fun t57 => (cat (([108,101,97,115,116] : Str).length + t57.length)).bind fun _ => (QA t41.2 (12:Int)).bind fun t62 => (some ((Qo.mk (([108,101,97,115,116] : Str) ++ t57) (k_).Name ([] : Str) ([115,105,122,101] : Str) (IntKind.i64.wrap (t62.1 - (t38).Hi))),true,t62.2)))))
theorem Qla {q0 : Value} {m_ : Qv} {k_ : Qi} {r : Qo × Bool × Qv} (h : Qbl m_ k_ = some r) : FnOk Tryz.prog 34 [tv q0,Qk.ty k_] [box (Qt.cs m_) q0] (fun _ => [box (Qt.cs r.2.2) q0]) (fun _ => ttup [QC.ty r.1,tb r.2.1]) := by
 unfold Qbl at h
 refine fe Tryz.func34 Tryz.ntmps34 fun M0 M w0 a hpl H => ?_
 replace H : St M w0 67 [(0,tv q0),(1,Qk.ty k_)] [box (Qt.cs m_) q0] a w0 := H
 refine sr mx [v1 1 (fun v0 => box (QC.cs zz3) v0)] H (fun _ => .o (QT (R := Qk) (u := k_) z1)<|.m [] [1] rfl rfl rfl (Q1 (R := QC) (a := zz3) Qcb Qpq)<|.o (Qa .k)<|.n) fun n0 a w H => ?_
 have H := H.to [0,1,3] [_,_,_] [_,_] rfl rfl
 have ⟨t11,ht11,h⟩ := bs h
 refine sr mx [] H (fun _ => .o (Qe Qap z0)<|.o (Qf (u := (k_).Fields) Qc8 z0 rfl)<|.o (Qh Qnz (Qhy ht11) (.cons (.of z0)<|.cons (.of .k)<|.nil))<|.o (Qa z0)<|.n) fun _ a w H => ?_
 have H := H.to [3,4,5,6] [_,_,_,_] [_,_] rfl rfl
 have ⟨t14,ht14,h⟩ := bs h
 refine sr mx [] H (fun _ => .o (Qe Qap z1)<|.o (Qf (u := (k_).Fields) Qc8 z0 rfl)<|.o (Qh Qnz (Qhy ht14) (.cons (.of z0)<|.cons (.of .k)<|.nil))<|.o (Qa z0)<|.n) fun _ a w H => ?_
 have H := H.to [3,4,5,6,7] [_,_,_,_,_] [_,_] rfl rfl
 refine wp_seq_k (fun _ k6 => ?_)
 have ⟨t19,ht19,h⟩ := bs h
 refine sr mx [v0 (box (Qt.cs (bif ((decide (t11 ≥ (0:Int))) == true) then t19.2 else m_)) q0)] H (fun _ => .q 1 rfl<|.o (QaY z0 .k)<|.q 0 rfl<|.g rfl rfl bq0 (fun _ => Qw z7)<|.ge (N := fun c _ => [box (Qt.cs (bif c then t19.2 else m_)) q0]) [] [0] [2] rfl rfl rfl rfl rfl bq1 (fun hc => Qh Qas (QB (Q9 ht19 hc)) (.cons (.of (.cond z0 hc))<|.cons (.of .k)<|.nil)) rfl<|.g rfl rfl bq2 (fun hc => Qcf (.cond z0 hc) .k)<|.o (QY z3 (fun hp => (.cond z0 (beqT hp))))<|.n) fun _ a w H => ?_
 have H := H.to [6,7,9,10,11] [_,_,_,_,_] [_,_] rfl rfl
 refine wi H h (fun b20 h => ?_) (fun b20 h => ?_)
 ·refine wp_seq_k (fun _ k8 => ?_)
  have ⟨t24,ht24,h⟩ := bs h
  have ⟨u25,hu25,h⟩ := bs h
  have ⟨t29,ht29,h⟩ := bs h
  refine wr mx [v0 (box (Qt.cs t29.2) q0),v0 (box (QC.cs (Qo.mk (([111,114,100,101,114] : Str) ++ t24) (k_).Name ([108,111,119] : Str) ([104,105,103,104] : Str) (IntKind.i64.wrap (t29.1 - (2:Int))))) (n0 1))] H (fun _ => .o (Qe QcY z2)<|.o (Qf (u := (k_).Name) tok9 z0 rfl)<|.o (Qn5 ud9 z0 (.no _) (.op .k) ht24)<|.o (Qgb .k z0 hu25)<|.o (Qe QcY z6)<|.o (Qf (u := (k_).Name) tok9 z0 rfl)<|.q 10 rfl<|.e [] [1] [2] rfl rfl rfl rfl (Qh Qas (QB ht29) (.cons (.of z0)<|.cons (.of .k)<|.nil))<|.o (Qdc z0 .k)<|.p (T := QC.ty (Qo.mk (([111,114,100,101,114] : Str) ++ t24) (k_).Name ([108,111,119] : Str) ([104,105,103,104] : Str) (IntKind.i64.wrap (t29.1 - (2:Int))))) rfl (QX ud84 pl84 zv84 zc84 (.cons (R := rS) (u := (([111,114,100,101,114] : Str) ++ t24)) rfl z5 (leb rfl)<|.cons (R := rS) (u := (k_).Name) rfl z3 (leb rfl)<|.cons (R := rS) (u := ([108,111,119] : Str)) rfl .k (leb rfl)<|.cons (R := rS) (u := ([104,105,103,104] : Str)) rfl .k (leb rfl)<|.cons (R := rI) (u := (IntKind.i64.wrap (t29.1 - (2:Int)))) rfl z0 (leb rfl)<|.nil _))<|.e [] [0] [3] rfl rfl rfl rfl (QR (R := QC) (a := (Qo.mk (([111,114,100,101,114] : Str) ++ t24) (k_).Name ([108,111,119] : Str) ([104,105,103,104] : Str) (IntKind.i64.wrap (t29.1 - (2:Int))))) Qcb z13 z0 (leb rfl))<|.o (Qa .k)<|.n) fun _ a w H => ?_
  have H := H.to [10,14,15] [_,_,_] [_,_] rfl rfl
  refine k8 _ _ ?_
  refine wp_ret ?_
  obtain rfl := sj h
  exact rt undef [0] hpl H (.cell (R := QC) (u := (Qo.mk (([111,114,100,101,114] : Str) ++ t24) (k_).Name ([108,111,119] : Str) ([104,105,103,104] : Str) (IntKind.i64.wrap (t29.1 - (2:Int))))) Qcb z1 1 rfl rfl (.tmp z0 .nil))
 refine wp_skip (k6 _ _ ?_)
 refine wp_seq_k (fun _ k9 => ?_)
 refine sr mx [] H (fun _ => .q 1 rfl<|.o (QU z0 .k)<|.n) fun _ a w H => ?_
 have H := H.to [1,3,4,5,6] [_,_,_,_,_] [_,_] rfl rfl
 refine wi H h (fun b19 h => ?_) (fun b19 h => ?_)
 ·refine sr mx [v0 (box (QC.cs zz3) (n0 1))] H (fun _ => .p (T := QC.ty zz3) rfl (QX ud84 pl84 zv84 zc84 (.nil _))<|.e [] [0] [2] rfl rfl rfl rfl (QR (R := QC) (a := zz3) Qcb z4 z0 (leb rfl))<|.o (Qa .k)<|.n) fun _ a w H => ?_
  have H := H.to [1,5,6] [_,_,_] [_,_] rfl rfl
  refine wp_ret ?_
  obtain rfl := sj h
  exact rt undef [0] hpl H (.cell (R := QC) (u := zz3) Qcb z1 1 rfl rfl (.tmp z0 .nil))
 refine wp_skip (k9 _ _ ?_)
 have ⟨t38,ht38,h⟩ := bs h
 refine sr mx [v1 5 (fun v0 => box (Qd.cs zz0) v0),v1 5 (fun v0 => box (Qd.cs t38) v0)] H (fun _ => .o (Qe Qap z2)<|.o (Qf (u := (k_).Fields) Qc8 z0 rfl)<|.q 3 rfl<|.o (QG ud53 QS z1 z0 ht38)<|.o (Qr QS z0)<|.m [] [2] rfl rfl rfl (Q1 (R := Qd) (a := zz0) QS Qeh)<|.e [] [2] [3] rfl rfl rfl rfl (QR (R := Qd) (a := t38) QS z0 z1 (leb rfl))<|.n) fun _ a w H => ?_
 replace H : St _ _ _ [_,_,_,_] [_,_] _ _ := ((((H.pick [5,8,9,10]).selA [2,0,1] rfl).shareB 0 rfl).add 0 rfl (fun _ _ _ h => h.2)).pick [0,3,4,5]
 refine wp_seq_k (fun _ k14 => ?_)
 have ⟨t41,ht41,h⟩ := bs h
 refine sr mx [v0 (box (Qt.cs t41.2) q0)] H (fun _ => .q 3 rfl<|.e [] [1] [2] rfl rfl rfl rfl (Qh Qas (QB ht41) (.cons (.of z0)<|.cons (.of .k)<|.nil))<|.o (Q4 z0 .k)<|.n) fun _ a w H => ?_
 have H := H.to [2,3,4,5,6] [_,_,_,_,_] [_,_] rfl rfl
 refine wi H h (fun b18 h => ?_) (fun b18 h => ?_)
 ·refine wp_seq_k (fun _ k16 => ?_)
  have ⟨t45,ht45,h⟩ := bs h
  have ⟨u46,hu46,h⟩ := bs h
  have ⟨t52,ht52,h⟩ := bs h
  refine wr mx [v0 (box (Qt.cs t52.2) q0),v0 (box (QC.cs (Qo.mk (([109,111,115,116] : Str) ++ t45) (k_).Name ([115,105,122,101] : Str) ([] : Str) (IntKind.i64.wrap ((t38).Lo + t52.1)))) (n0 1))] H (fun _ => .o (Qe QcY z2)<|.o (Qf (u := (k_).Name) tok9 z0 rfl)<|.o (Qn5 ud9 z0 (.no _) (.op .k) ht45)<|.o (Qgb .k z0 hu46)<|.o (Qe QcY z6)<|.o (Qf (u := (k_).Name) tok9 z0 rfl)<|.o (Qe Qbd z7)<|.o (Qf (u := (t38).Lo) tok3 z0 rfl)<|.q 12 rfl<|.e [] [1] [2] rfl rfl rfl rfl (Qh Qas (QB ht52) (.cons (.of z0)<|.cons (.of .k)<|.nil))<|.o (QV z2 z0)<|.p (T := QC.ty (Qo.mk (([109,111,115,116] : Str) ++ t45) (k_).Name ([115,105,122,101] : Str) ([] : Str) (IntKind.i64.wrap ((t38).Lo + t52.1)))) rfl (QX ud84 pl84 zv84 zc84 (.cons (R := rS) (u := (([109,111,115,116] : Str) ++ t45)) rfl z7 (leb rfl)<|.cons (R := rS) (u := (k_).Name) rfl z5 (leb rfl)<|.cons (R := rS) (u := ([115,105,122,101] : Str)) rfl .k (leb rfl)<|.cons (R := rI) (u := (IntKind.i64.wrap ((t38).Lo + t52.1))) rfl z0 (leb rfl)<|.nil _))<|.e [] [0] [3] rfl rfl rfl rfl (QR (R := QC) (a := (Qo.mk (([109,111,115,116] : Str) ++ t45) (k_).Name ([115,105,122,101] : Str) ([] : Str) (IntKind.i64.wrap ((t38).Lo + t52.1)))) Qcb z15 z0 (leb rfl))<|.o (Qa .k)<|.n) fun _ a w H => ?_
  have H := H.to [12,16,17] [_,_,_] [_,_] rfl rfl
  refine k16 _ _ ?_
  refine wp_ret ?_
  obtain rfl := sj h
  exact rt undef [0] hpl H (.cell (R := QC) (u := (Qo.mk (([109,111,115,116] : Str) ++ t45) (k_).Name ([115,105,122,101] : Str) ([] : Str) (IntKind.i64.wrap ((t38).Lo + t52.1)))) Qcb z1 1 rfl rfl (.tmp z0 .nil))
 refine wp_skip (k14 _ _ ?_)
 refine wp_seq_k (fun _ k17 => ?_)
 have ⟨t57,ht57,h⟩ := bs h
 have ⟨u58,hu58,h⟩ := bs h
 have ⟨t62,ht62,h⟩ := bs h
 refine wr mx [v0 (box (Qt.cs t62.2) q0),v0 (box (QC.cs (Qo.mk (([108,101,97,115,116] : Str) ++ t57) (k_).Name ([] : Str) ([115,105,122,101] : Str) (IntKind.i64.wrap (t62.1 - (t38).Hi)))) (n0 1))] H (fun _ => .o (Qe QcY z2)<|.o (Qf (u := (k_).Name) tok9 z0 rfl)<|.o (Qn5 ud9 z0 (.no _) (.op .k) ht57)<|.o (Qgb .k z0 hu58)<|.o (Qe QcY z6)<|.o (Qf (u := (k_).Name) tok9 z0 rfl)<|.q 10 rfl<|.e [] [1] [2] rfl rfl rfl rfl (Qh Qas (QB ht62) (.cons (.of z0)<|.cons (.of .k)<|.nil))<|.o (Qe Qb0 z9)<|.o (Qf (u := (t38).Hi) tok3 z0 rfl)<|.o (Qdc z2 z0)<|.p (T := QC.ty (Qo.mk (([108,101,97,115,116] : Str) ++ t57) (k_).Name ([] : Str) ([115,105,122,101] : Str) (IntKind.i64.wrap (t62.1 - (t38).Hi)))) rfl (QX ud84 pl84 zv84 zc84 (.cons (R := rS) (u := (([108,101,97,115,116] : Str) ++ t57)) rfl z7 (leb rfl)<|.cons (R := rS) (u := (k_).Name) rfl z5 (leb rfl)<|.cons (R := rS) (u := ([115,105,122,101] : Str)) rfl .k (leb rfl)<|.cons (R := rI) (u := (IntKind.i64.wrap (t62.1 - (t38).Hi))) rfl z0 (leb rfl)<|.nil _))<|.e [] [0] [3] rfl rfl rfl rfl (QR (R := QC) (a := (Qo.mk (([108,101,97,115,116] : Str) ++ t57) (k_).Name ([] : Str) ([115,105,122,101] : Str) (IntKind.i64.wrap (t62.1 - (t38).Hi)))) Qcb z15 z0 (leb rfl))<|.o (Qa .k)<|.n) fun _ a w H => ?_
 have H := H.to [12,16,17] [_,_,_] [_,_] rfl rfl
 refine k17 _ _ ?_
 refine wp_ret ?_
 obtain rfl := sj h
 exact rt undef [0] hpl H (.cell (R := QC) (u := (Qo.mk (([108,101,97,115,116] : Str) ++ t57) (k_).Name ([] : Str) ([115,105,122,101] : Str) (IntKind.i64.wrap (t62.1 - (t38).Hi)))) Qcb z1 1 rfl rfl (.tmp z0 .nil))

end Go.Proofs.YtcdccjagknlmpaaGreatDoor
