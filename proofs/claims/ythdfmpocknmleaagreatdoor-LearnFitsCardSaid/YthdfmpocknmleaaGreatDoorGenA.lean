/- Go functions as Lean functions, and the proofs that they compute them, written by a program. No condition. -/
import Derived.Test.YthdfmpocknmleaaGreatDoorLib
namespace Go.Proofs.YthdfmpocknmleaaGreatDoor
open Go.Sim

/- diorama/dioramaref01.Around -/
noncomputable def fref01_Around (n_ : Int) (most_ : Int) : Option (Int) := ((if (decide (n_ < (0:Int))) = true then (some (IntKind.i64.wrap (0 - (IntKind.i64.wrap (n_ + (1:Int)))))) else (some n_))).bind fun (p4 : Int) => (if (decide (most_ < (1:Int))) = true then (some (0:Int)) else (nz most_).bind fun _ => (some (Int.tmod p4 most_)))
set_option maxRecDepth 100000 in
set_option maxHeartbeats 4000000 in
theorem ref01_Around_ok {n_ : Int} {most_ : Int} {r : Int} (h : fref01_Around n_ most_ = some r) : FnOk Tryz.prog 56 [ti n_,ti most_] [] (fun _ => []) (fun _ => ti r) := by
 unfold fref01_Around at h
 refine FnOk.enter Tryz.func56 rfl Tryz.ntmps56 (leb rfl) (fun M0 M w0 a hpl hst => ?_)
 replace hst : St M w0 15 [(0,ti n_),(1,ti most_)] [] a w0 := hst
 refine sr mixed [] hst (fun _ => .o (op_assign .k) <| .n) fun n0 a w hst => ?_
 replace hst := hst.to [1,2] [_,_] [] rfl rfl
 refine wp_seq_k (fun K2 hK2 => ?_)
 refine sr mixed [] hst (fun _ => .q 0 rfl <| .o (op_lss z0 .k) <| .n) fun n1 a w hst => ?_
 replace hst := hst.to [1,2,3] [_,_,_] [] rfl rfl
 obtain ⟨p4,hp4,h⟩ := bind_some h
 have hJp4 : ∀ a w,St M w0 15 [(0,ti p4),(1,ti most_)] [] a w → K2 a w := by
  intro a w hst
  refine hK2 _ _ ?_
  try clear hK2 K2
  refine wp_seq_k (fun K6 hK6 => ?_)
  refine sr mixed [] hst (fun _ => .q 1 rfl <| .o (op_lss z0 .k) <| .n) fun n3 a w hst => ?_
  replace hst := hst.to [1,2,3] [_,_,_] [] rfl rfl
  refine wt hst (fun b10 => ?_) (fun b10 => ?_)
  ·replace h := ite_t b10 h
   refine sr mixed [] hst (fun _ => .o (op_assign .k) <| .n) fun n4 a w hst => ?_
   replace hst := hst.to [0] [_] [] rfl rfl
   refine wp_ret ?_
   obtain rfl := sj h
   exact ret_st undef [] hpl hst rfl (.tmp z0 .nil) rfl rfl rfl
  ·replace h := ite_f b10 h
   refine wp_skip ?_
   refine hK6 _ _ ?_
   try clear hK6 K6
   refine wp_seq_k (fun K9 hK9 => ?_)
   obtain ⟨u14,hu14,h⟩ := bind_some h
   refine wr mixed [] hst (fun _ => .q 1 rfl <| .q 3 rfl <| .o (op_rem z1 z0 (nz_ne hu14)) <| .o (op_assign z0) <| .n) fun n5 a w hst => ?_
   replace hst := hst.to [3] [_] [] rfl rfl
   refine hK9 _ _ ?_
   try clear hK9 K9
   refine wp_ret ?_
   obtain rfl := sj h
   exact ret_st undef [] hpl hst rfl (.tmp z0 .nil) rfl rfl rfl
 replace h := hp4
 clear hp4
 refine wt hst (fun b11 => ?_) (fun b11 => ?_)
 ·replace h := ite_t b11 h
  refine wr mixed [] hst (fun _ => .q 1 rfl <| .o (op_add z0 .k) <| .o (op_neg z0) <| .o (op_assign z0) <| .n) fun n2 a w hst => ?_
  replace hst := hst.to [3,5] [_,_] [] rfl rfl
  obtain rfl := sj h
  exact hJp4 _ _ (hst.pick [0,1])
 ·replace h := ite_f b11 h
  refine wp_skip ?_
  obtain rfl := sj h
  exact hJp4 _ _ (hst.pick [1,2])

/- diorama/dioramaref01.At -/
noncomputable def fref01_At (l_ : (List Int)) (i_ : Int) (most_ : Int) : Option (Int) := (if ((decide (i_ < (0:Int))) || (decide (i_ ≥ (l_.length : Int)))) = true then (some (0:Int)) else (idx l_ i_).bind fun t17 => (fref01_Around t17 most_).bind fun t20 => (some t20))
set_option maxRecDepth 100000 in
set_option maxHeartbeats 4000000 in
theorem ref01_At_ok {l_ : (List Int)} {i_ : Int} {most_ : Int} {r : Int} (h : fref01_At l_ i_ most_ = some r) : FnOk Tryz.prog 54 [tsl rI l_,ti i_,ti most_] [] (fun _ => []) (fun _ => ti r) := by
 unfold fref01_At at h
 refine FnOk.enter Tryz.func54 rfl Tryz.ntmps54 (leb rfl) (fun M0 M w0 a hpl hst => ?_)
 replace hst : St M w0 21 [(0,tsl rI l_),(1,ti i_),(2,ti most_)] [] a w0 := hst
 refine sr mixed [] hst (fun _ => .o (op_assign .k) <| .n) fun n0 a w hst => ?_
 replace hst := hst.to [1,2,3] [_,_,_] [] rfl rfl
 refine wp_seq_k (fun K2 hK2 => ?_)
 refine sr mixed [] hst (fun _ => .q 1 rfl <| .o (op_lss z0 .k) <| .q 0 rfl <| .g rfl rfl (.b 0 rfl) (fun _ => op_move z4) <| .g rfl rfl (.b 1 rfl) (fun _ => op_move z4) <| .g rfl rfl (.b 2 rfl) (fun hc => op_len ud22 (.cond z0 hc)) <| .g rfl rfl (.b 3 rfl) (fun hc => op_geq (.cond z2 hc) (.cond z0 hc)) <| .o (op_or z4 (fun hp => (.cond z0 (beqF hp)))) <| .n) fun n1 a w hst => ?_
 replace hst := hst.to [7,8,9,10] [_,_,_,_] [] rfl rfl
 refine wt hst (fun b6 => ?_) (fun b6 => ?_)
 ·replace h := ite_t b6 h
  refine sr mixed [] hst (fun _ => .o (op_assign .k) <| .n) fun n2 a w hst => ?_
  replace hst := hst.to [0] [_] [] rfl rfl
  refine wp_ret ?_
  obtain rfl := sj h
  exact ret_st undef [] hpl hst rfl (.tmp z0 .nil) rfl rfl rfl
 ·replace h := ite_f b6 h
  refine wp_skip ?_
  refine hK2 _ _ ?_
  try clear hK2 K2
  obtain ⟨t17,ht17,h⟩ := bind_some h
  obtain ⟨t20,ht20,h⟩ := bind_some h
  refine sr mixed [] hst (fun _ => .q 1 rfl <| .q 3 rfl <| .o (op_index ud22 tok3 z1 z0 ht17) <| .o (op_load tok3 z0) <| .q 7 rfl <| .o (op_callF call56 (ref01_Around_ok ht20) (.cons (.of z1) <| .cons (.of z0) <| .nil)) <| .o (op_assign z0) <| .n) fun n3 a w hst => ?_
  replace hst := hst.to [6] [_] [] rfl rfl
  refine wp_ret ?_
  obtain rfl := sj h
  exact ret_st undef [] hpl hst rfl (.tmp z0 .nil) rfl rfl rfl

/- (*diorama/dioramaref09.Maker).Take -/
noncomputable def fref09_Maker_Take (m_ : Sref09_Maker) (n_ : Int) : Option (Int × Sref09_Maker) := (fref01_At (m_).L (IntKind.i64.wrap ((IntKind.i64.wrap ((m_).I + (1:Int))) - (1:Int))) n_).bind fun t22 => (some (t22,(Sref09_Maker.mk (m_).L (IntKind.i64.wrap ((m_).I + (1:Int))))))
set_option maxRecDepth 100000 in
set_option maxHeartbeats 4000000 in
theorem ref09_Maker_Take_ok {q0 : Value} {m_ : Sref09_Maker} {n_ : Int} {r : Int × Sref09_Maker} (h : fref09_Maker_Take m_ n_ = some r) : FnOk Tryz.prog 51 [tv q0,ti n_] [box (rSref09_Maker.cs m_) q0] (fun _ => [box (rSref09_Maker.cs r.2) q0]) (fun _ => ti r.1) := by
 unfold fref09_Maker_Take at h
 refine FnOk.enter Tryz.func51 rfl Tryz.ntmps51 (leb rfl) (fun M0 M w0 a hpl hst => ?_)
 replace hst : St M w0 23 [(0,tv q0),(1,ti n_)] [box (rSref09_Maker.cs m_) q0] a w0 := hst
 refine sr mixed [] hst (fun _ => .o (op_assign .k) <| .n) fun n0 a w hst => ?_
 replace hst := hst.to [1,2] [_,_] [_] rfl rfl
 refine sr mixed [v0 (box (rSref09_Maker.cs (Sref09_Maker.mk (m_).L (IntKind.i64.wrap ((m_).I + (1:Int))))) q0)] hst (fun _ => .q 0 rfl <| .u [0] rfl rfl (op_nilB z0) <| .u [0] rfl rfl (op_fieldB fld95_1 z0) <| .u [0] rfl rfl (op_loadBf (R := rI) (u := (m_).I) tok3 z0 rfl) <| .o (op_add z0 .k) <| .u [0] rfl rfl (op_nilB z4) <| .u [0] rfl rfl (op_fieldB fld95_1 z0) <| .e [] [0] [1] rfl rfl rfl rfl (op_storeBf (R := rI) (a := (IntKind.i64.wrap ((m_).I + (1:Int)))) (Ts := (rSref09_Maker.cs m_)) (off := 1) tok3 z0 z2 (leb rfl)) <| .n) fun n1 a w hst => ?_
 replace hst := hst.to [7,8] [_,_] [_] rfl rfl
 obtain ⟨t22,ht22,h⟩ := bind_some h
 refine sr mixed [] hst (fun _ => .q 0 rfl <| .u [0] rfl rfl (op_nilB z0) <| .u [0] rfl rfl (op_fieldB fld95_0 z0) <| .u [0] rfl rfl (op_loadBf (R := (rSl rI)) (u := (m_).L) tok22 z0 rfl) <| .q 4 rfl <| .u [0] rfl rfl (op_nilB z0) <| .u [0] rfl rfl (op_fieldB fld95_1 z0) <| .u [0] rfl rfl (op_loadBf (R := rI) (u := (IntKind.i64.wrap ((m_).I + (1:Int)))) tok3 z0 rfl) <| .o (op_sub z0 .k) <| .q 10 rfl <| .o (op_callF call54 (ref01_At_ok ht22) (.cons (.of z6) <| .cons (.of z1) <| .cons (.of z0) <| .nil)) <| .o (op_assign z0) <| .n) fun n2 a w hst => ?_
 replace hst := hst.to [11,12] [_,_] [_] rfl rfl
 refine wp_ret ?_
 obtain rfl := sj h
 exact ret_st undef [0] hpl hst rfl (.tmp z0 .nil) rfl rfl rfl

/- diorama/dioramaref09.Copied -/
noncomputable def fref09_Copied (k_ : Sapi_Kind) : Option (Int) := (tailrec (fun (s4 : Int) => ((if (decide (s4 < ((k_).Fields.length : Int))) = true then (idx (k_).Fields s4).bind fun t15 => (if (((((t15).Kind != (0:Int)) && ((t15).Kind != (1:Int))) && ((t15).Kind != (6:Int))) && ((t15).Kind != (7:Int))) = true then (some (.inr (.inr s4))) else (some (.inl (IntKind.i64.wrap (s4 + (1:Int)))))) else (some (.inr (.inl ())))) : Option ((Int) ⊕ ((Unit) ⊕ (Int))))) (0:Int)).bind fun (e5 : (Unit) ⊕ (Int)) => (match e5 with | .inl _ => (some (-1:Int)) | .inr p23 => (some p23))
set_option maxRecDepth 100000 in
set_option maxHeartbeats 4000000 in
theorem ref09_Copied_ok {k_ : Sapi_Kind} {r : Int} (h : fref09_Copied k_ = some r) : FnOk Tryz.prog 95 [rSapi_Kind.ty k_] [] (fun _ => []) (fun _ => ti r) := by
 unfold fref09_Copied at h
 refine FnOk.enter Tryz.func95 rfl Tryz.ntmps95 (leb rfl) (fun M0 M w0 a hpl hst => ?_)
 replace hst : St M w0 33 [(0,rSapi_Kind.ty k_)] [] a w0 := hst
 refine sr mixed [] hst (fun _ => .o (op_boxR (R := rSapi_Kind) (u := k_) z0) <| .o (op_assign .k) <| .n) fun n0 a w hst => ?_
 replace hst := hst.to [0] [_] [] rfl rfl
 refine wp_seq_k (fun K2 hK2 => ?_)
 refine sr mixed [] hst (fun _ => .o (op_assign .k) <| .n) fun n1 a w hst => ?_
 replace hst := hst.to [0,1] [_,_] [] rfl rfl
 obtain ⟨e5,he5,h⟩ := bind_some h
 have hJp22 : ∀ (p22 : Unit) a w,(.inl p22) = e5 → St M w0 33 [] [] a w → K2 a w := by
  intro p22 a w he hst
  subst he
  simp only at h
  refine hK2 _ _ ?_
  try clear hK2 K2
  refine sr mixed [] hst (fun _ => .o (op_assign .k) <| .n) fun n7 a w hst => ?_
  replace hst := hst.to [0] [_] [] rfl rfl
  refine wp_ret ?_
  obtain rfl := sj h
  exact ret_st undef [] hpl hst rfl (.tmp z0 .nil) rfl rfl rfl
 have hJp23 : ∀ (p23 : Int) a w,(.inr p23) = e5 → St M w0 33 [(2,ti p23)] [] a w → Ret Tryz.prog Tryz.f95 M0 [] w0 (fun _ => []) (fun _ => ti r) .ret a w := by
  intro p23 a w he hst
  subst he
  simp only at h
  obtain rfl := sj h
  exact ret_st undef [] hpl hst rfl (.tmp z0 .nil) rfl rfl rfl
 refine wp_block ?_
 refine wp_loopK _ (fun (s4 : Int) a w => St M w0 33 [(3,ti s4),(1,tptr (rSapi_Kind.cs k_))] [] a w) _ _ he5 (hst.pick [0,1]) ?_
 clear h
 intro s4 o a w K25 hI h ho hK25
 have hst := hI
 clear hI
 refine wp_seq_k (fun K26 hK26 => ?_)
 refine sr mixed [] hst (fun _ => .q 0 rfl <| .o (op_field fld47_3 z2) <| .o (op_loadT (R := (rSl rSapi_Field)) (u := (k_).Fields) tok45 z0 rfl) <| .o (op_len ud45 z0) <| .o (op_lss z3 z0) <| .n) fun n2 a w hst => ?_
 replace hst := hst.to [4,5,6] [_,_,_] [] rfl rfl
 refine wt hst (fun b33 => ?_) (fun b33 => ?_)
 ·replace h := ite_t b33 h
  refine wp_skip ?_
  refine hK26 _ _ ?_
  try clear hK26 K26
  refine wp_seq_k (fun K28 hK28 => ?_)
  refine wp_block ?_
  obtain ⟨t15,ht15,h⟩ := bind_some h
  refine sr mixed [] hst (fun _ => .o (op_field fld47_3 z2) <| .o (op_loadT (R := (rSl rSapi_Field)) (u := (k_).Fields) tok45 z0 rfl) <| .q 3 rfl <| .o (op_index ud45 tok44 z1 z0 ht15) <| .o (op_field fld44_3 z0) <| .o (op_loadT (R := rI) (u := (t15).Kind) tok3 z0 rfl) <| .o (op_assign z0) <| .n) fun n4 a w hst => ?_
  replace hst := hst.to [6,8,9] [_,_,_] [] rfl rfl
  refine sr mixed [] hst (fun _ => .q 0 rfl <| .o (op_neq z0 .k) <| .q 0 rfl <| .g rfl rfl (.b 0 rfl) (fun _ => op_move z3) <| .g rfl rfl (.b 1 rfl) (fun hc => op_neq (.cond z0 hc) .k) <| .o (op_and z2 (fun hp => (.cond z0 (beqT hp)))) <| .q 0 rfl <| .g rfl rfl (.b 0 rfl) (fun _ => op_move z7) <| .g rfl rfl (.b 1 rfl) (fun hc => op_neq (.cond z0 hc) .k) <| .o (op_and z2 (fun hp => (.cond z0 (beqT hp)))) <| .q 0 rfl <| .g rfl rfl (.b 0 rfl) (fun _ => op_move z11) <| .g rfl rfl (.b 1 rfl) (fun hc => op_neq (.cond z0 hc) .k) <| .o (op_and z2 (fun hp => (.cond z0 (beqT hp)))) <| .n) fun n5 a w hst => ?_
  replace hst := hst.to [13,15,16] [_,_,_] [] rfl rfl
  refine wt hst (fun b32 => ?_) (fun b32 => ?_)
  ·replace h := ite_t b32 h
   refine sr mixed [] hst (fun _ => .q 1 rfl <| .o (op_assign z0) <| .n) fun n6 a w hst => ?_
   replace hst := hst.to [1] [_] [] rfl rfl
   refine wp_ret ?_
   exact hJp23 _ _ _ (ho _ (sj h).symm) (hst.pick [0])
  ·replace h := ite_f b32 h
   refine wp_skip ?_
   refine hK28 _ _ ?_
   try clear hK28 K28
   refine wr mixed [] hst (fun _ => .q 1 rfl <| .o (op_add z0 .k) <| .o (op_assign z0) <| .n) fun n3 a w hst => ?_
   replace hst := hst.to [2,4] [_,_] [] rfl rfl
   exact hK25 _ _ _ (sj h).symm (hst.pick [0,1])
 ·replace h := ite_f b33 h
  refine wp_exit ?_
  exact hJp22 _ _ _ (ho _ (sj h).symm) (hst.pick [])

/- diorama/dioramaref09.has -/
noncomputable def fref09_has (l_ : (List Sapi_Field)) (name_ : Str) : Option (Int) := (tailrec (fun (s4 : Int) => ((if (decide (s4 < (l_.length : Int))) = true then (idx l_ s4).bind fun t14 => (if ((t14).Name == name_) = true then (some (.inr (.inr s4))) else (some (.inl (IntKind.i64.wrap (s4 + (1:Int)))))) else (some (.inr (.inl ())))) : Option ((Int) ⊕ ((Unit) ⊕ (Int))))) (0:Int)).bind fun (e5 : (Unit) ⊕ (Int)) => (match e5 with | .inl _ => (some (-1:Int)) | .inr p21 => (some p21))
set_option maxRecDepth 100000 in
set_option maxHeartbeats 4000000 in
theorem ref09_has_ok {l_ : (List Sapi_Field)} {name_ : Str} {r : Int} (h : fref09_has l_ name_ = some r) : FnOk Tryz.prog 96 [tsl rSapi_Field l_,tv (.string (sB name_))] [] (fun _ => []) (fun _ => ti r) := by
 unfold fref09_has at h
 refine FnOk.enter Tryz.func96 rfl Tryz.ntmps96 (leb rfl) (fun M0 M w0 a hpl hst => ?_)
 replace hst : St M w0 20 [(0,tsl rSapi_Field l_),(1,tv (.string (sB name_)))] [] a w0 := hst
 refine sr mixed [] hst (fun _ => .o (op_assign .k) <| .n) fun n0 a w hst => ?_
 replace hst := hst.to [1,2] [_,_] [] rfl rfl
 refine wp_seq_k (fun K2 hK2 => ?_)
 refine sr mixed [] hst (fun _ => .o (op_assign .k) <| .n) fun n1 a w hst => ?_
 replace hst := hst.to [0,1,2] [_,_,_] [] rfl rfl
 obtain ⟨e5,he5,h⟩ := bind_some h
 have hJp20 : ∀ (p20 : Unit) a w,(.inl p20) = e5 → St M w0 20 [] [] a w → K2 a w := by
  intro p20 a w he hst
  subst he
  simp only at h
  refine hK2 _ _ ?_
  try clear hK2 K2
  refine sr mixed [] hst (fun _ => .o (op_assign .k) <| .n) fun n6 a w hst => ?_
  replace hst := hst.to [0] [_] [] rfl rfl
  refine wp_ret ?_
  obtain rfl := sj h
  exact ret_st undef [] hpl hst rfl (.tmp z0 .nil) rfl rfl rfl
 have hJp21 : ∀ (p21 : Int) a w,(.inr p21) = e5 → St M w0 20 [(4,ti p21)] [] a w → Ret Tryz.prog Tryz.f96 M0 [] w0 (fun _ => []) (fun _ => ti r) .ret a w := by
  intro p21 a w he hst
  subst he
  simp only at h
  obtain rfl := sj h
  exact ret_st undef [] hpl hst rfl (.tmp z0 .nil) rfl rfl rfl
 refine wp_block ?_
 refine wp_loopK _ (fun (s4 : Int) a w => St M w0 20 [(5,ti s4),(0,tsl rSapi_Field l_),(1,tv (.string (sB name_)))] [] a w) _ _ he5 (hst.pick [0,1,2]) ?_
 clear h
 intro s4 o a w K23 hI h ho hK23
 have hst := hI
 clear hI
 refine wp_seq_k (fun K24 hK24 => ?_)
 refine sr mixed [] hst (fun _ => .q 0 rfl <| .q 2 rfl <| .o (op_len ud45 z0) <| .o (op_lss z2 z0) <| .n) fun n2 a w hst => ?_
 replace hst := hst.to [3,4,5,6] [_,_,_,_] [] rfl rfl
 refine wt hst (fun b30 => ?_) (fun b30 => ?_)
 ·replace h := ite_t b30 h
  refine wp_skip ?_
  refine hK24 _ _ ?_
  try clear hK24 K24
  refine wp_seq_k (fun K26 hK26 => ?_)
  refine wp_block ?_
  obtain ⟨t14,ht14,h⟩ := bind_some h
  refine sr mixed [] hst (fun _ => .q 2 rfl <| .q 2 rfl <| .o (op_index ud45 tok44 z1 z0 ht14) <| .o (op_field fld44_0 z0) <| .o (op_loadT (R := rS) (u := (t14).Name) tok9 z0 rfl) <| .q 8 rfl <| .o (op_eqlS z1 z0) <| .n) fun n4 a w hst => ?_
  replace hst := hst.to [6,8,9,10] [_,_,_,_] [] rfl rfl
  refine wt hst (fun b29 => ?_) (fun b29 => ?_)
  ·replace h := ite_t b29 h
   refine sr mixed [] hst (fun _ => .q 1 rfl <| .o (op_assign z0) <| .n) fun n5 a w hst => ?_
   replace hst := hst.to [1] [_] [] rfl rfl
   refine wp_ret ?_
   exact hJp21 _ _ _ (ho _ (sj h).symm) (hst.pick [0])
  ·replace h := ite_f b29 h
   refine wp_skip ?_
   refine hK26 _ _ ?_
   try clear hK26 K26
   refine wr mixed [] hst (fun _ => .q 1 rfl <| .o (op_add z0 .k) <| .o (op_assign z0) <| .n) fun n3 a w hst => ?_
   replace hst := hst.to [2,4,5] [_,_,_] [] rfl rfl
   exact hK23 _ _ _ (sj h).symm (hst.pick [0,1,2])
 ·replace h := ite_f b30 h
  refine wp_exit ?_
  exact hJp20 _ _ _ (ho _ (sj h).symm) (hst.pick [])

/- (*diorama/dioramaref09.Maker).plain -/
noncomputable def fref09_Maker_plain (m_ : Sref09_Maker) : Option ((List Sapi_Field) × Sref09_Maker) := (fref09_Maker_Take m_ (6:Int)).bind fun t10 => (if (t10.1 == (0:Int)) = true then (fref09_Maker_Take t10.2 (11:Int)).bind fun t14 => (fref09_Maker_Take t14.2 (20:Int)).bind fun t19 => (some ([(Sapi_Field.mk ([115,105,122,101] : Str) ([] : Str) ([] : Str) (2:Int) (IntKind.i64.wrap (t14.1 - (5:Int))) (IntKind.i64.wrap ((IntKind.i64.wrap (t14.1 - (5:Int))) + t19.1)) ([] : (List Str)) ([] : (List Int)))],t19.2)) else (if (t10.1 == (1:Int)) = true then (fref09_Maker_Take t10.2 (3:Int)).bind fun t27 => (sub [([114,101,100] : Str),([103,114,101,101,110] : Str),([98,108,117,101] : Str)] (0:Int) (IntKind.i64.wrap ((1:Int) + t27.1))).bind fun t29 => (tailrec (fun (s15 : Int × List Int × Sref09_Maker) => ((if (decide (s15.1 < (t29.length : Int))) = true then (fref09_Maker_Take s15.2.2 (5:Int)).bind fun t41 => (rm (s15.2.1.length + [t41.1].length)).bind fun _ => (some (.inl ((IntKind.i64.wrap (s15.1 + (1:Int))),(s15.2.1 ++ [t41.1]),t41.2))) else (some (.inr (s15.2.1,s15.2.2)))) : Option ((Int × List Int × Sref09_Maker) ⊕ ((List Int × Sref09_Maker))))) ((0:Int),([] : List Int),t27.2)).bind fun (p26 : (List Int × Sref09_Maker)) => (fref09_Maker_Take p26.2 (t29.length : Int)).bind fun t50 => (fref09_Maker_Take t50.2 (3:Int)).bind fun t52 => (setAt p26.1 t50.1 (IntKind.i64.wrap ((1:Int) + t52.1))).bind fun t54s => (some ([(Sapi_Field.mk ([116,97,103] : Str) ([] : Str) ([] : Str) (3:Int) (0:Int) (0:Int) t29 t54s)],t52.2)) else (if (t10.1 == (2:Int)) = true then (fref09_Maker_Take t10.2 (400:Int)).bind fun t60 => (fref09_Maker_Take t60.2 (60:Int)).bind fun t66 => (fref09_Maker_Take t66.2 (3:Int)).bind fun t71 => (fref09_Maker_Take t71.2 (30:Int)).bind fun t73 => (some ([(Sapi_Field.mk ([98,111,114,110] : Str) ([] : Str) ([] : Str) (4:Int) (IntKind.i64.wrap (t60.1 - (200:Int))) (IntKind.i64.wrap ((IntKind.i64.wrap (t60.1 - (200:Int))) + t66.1)) ([] : (List Str)) ([] : (List Int))),(Sapi_Field.mk ([108,101,102,116] : Str) ([98,111,114,110] : Str) ([] : Str) (4:Int) t71.1 (IntKind.i64.wrap ((3:Int) + t73.1)) ([] : (List Str)) ([] : (List Int)))],t73.2)) else (if (t10.1 == (3:Int)) = true then (fref09_Maker_Take t10.2 (3:Int)).bind fun t80 => (fref09_Maker_Take t80.2 (4:Int)).bind fun t84 => (some ([(Sapi_Field.mk ([115,116,97,116,101] : Str) ([108,105,102,101] : Str) ([] : Str) (5:Int) t80.1 (IntKind.i64.wrap (t80.1 + t84.1)) ([] : (List Str)) ([] : (List Int)))],t84.2)) else (if (t10.1 == (4:Int)) = true then (fref09_Maker_Take t10.2 (5:Int)).bind fun t91 => (fref09_Maker_Take t91.2 (10:Int)).bind fun t93 => (fref09_Maker_Take t93.2 (5:Int)).bind fun t97 => (fref09_Maker_Take t97.2 (10:Int)).bind fun t99 => (some ([(Sapi_Field.mk ([108,111,119] : Str) ([] : Str) ([] : Str) (2:Int) t91.1 (IntKind.i64.wrap ((5:Int) + t93.1)) ([] : (List Str)) ([] : (List Int))),(Sapi_Field.mk ([104,105,103,104] : Str) ([] : Str) ([] : Str) (2:Int) t97.1 (IntKind.i64.wrap ((10:Int) + t99.1)) ([] : (List Str)) ([] : (List Int)))],t99.2)) else (some (([] : List Sapi_Field),t10.2)))))))
set_option maxRecDepth 100000 in
set_option maxHeartbeats 4000000 in
theorem ref09_Maker_plain_ok {q0 : Value} {m_ : Sref09_Maker} {r : (List Sapi_Field) × Sref09_Maker} (h : fref09_Maker_plain m_ = some r) : FnOk Tryz.prog 97 [tv q0] [box (rSref09_Maker.cs m_) q0] (fun _ => [box (rSref09_Maker.cs r.2) q0]) (fun _ => tsl rSapi_Field r.1) := by
 unfold fref09_Maker_plain at h
 refine FnOk.enter Tryz.func97 rfl Tryz.ntmps97 (leb rfl) (fun M0 M w0 a hpl hst => ?_)
 replace hst : St M w0 103 [(0,tv q0)] [box (rSref09_Maker.cs m_) q0] a w0 := hst
 refine sr mixed [] hst (fun _ => .o (op_assign (.nilsl (R := rSapi_Field))) <| .n) fun n0 a w hst => ?_
 replace hst := hst.to [1] [_] [_] rfl rfl
 refine wp_seq_k (fun K3 hK3 => ?_)
 obtain ⟨t10,ht10,h⟩ := bind_some h
 refine sr mixed [v0 (box (rSref09_Maker.cs t10.2) q0)] hst (fun _ => .q 0 rfl <| .e [] [0] [1] rfl rfl rfl rfl (op_callF call51 (ref09_Maker_Take_ok ht10) (.cons (.of z0) <| .cons (.of .k) <| .nil)) <| .n) fun n1 a w hst => ?_
 replace hst := hst.to [1,2] [_,_] [_] rfl rfl
 refine wp_block ?_
 refine sr mixed [] hst (fun _ => .o (op_eql z0 .k) <| .o (op_assign z0) <| .n) fun n2 a w hst => ?_
 replace hst := hst.to [1,2,3] [_,_,_] [_] rfl rfl
 refine wt hst (fun b50 => ?_) (fun b50 => ?_)
 ·replace h := ite_t b50 h
  obtain ⟨t14,ht14,h⟩ := bind_some h
  refine sr mixed [v0 (box (rSref09_Maker.cs t14.2) q0)] hst (fun _ => .q 2 rfl <| .e [] [0] [1] rfl rfl rfl rfl (op_callF call51 (ref09_Maker_Take_ok ht14) (.cons (.of z0) <| .cons (.of .k) <| .nil)) <| .o (op_sub z0 .k) <| .o (op_assign z0) <| .n) fun n3 a w hst => ?_
  replace hst := hst.to [3,6] [_,_] [_] rfl rfl
  obtain ⟨t19,ht19,h⟩ := bind_some h
  refine sr mixed [v0 (box (rSref09_Maker.cs t19.2) q0)] hst (fun _ => .q 0 rfl <| .q 1 rfl <| .q 3 rfl <| .e [] [0] [1] rfl rfl rfl rfl (op_callF call51 (ref09_Maker_Take_ok ht19) (.cons (.of z0) <| .cons (.of .k) <| .nil)) <| .o (op_add z2 z0) <| .p (T := rSapi_Field.ty (Sapi_Field.mk ([115,105,122,101] : Str) ([] : Str) ([] : Str) (2:Int) (IntKind.i64.wrap (t14.1 - (5:Int))) (IntKind.i64.wrap ((IntKind.i64.wrap (t14.1 - (5:Int))) + t19.1)) ([] : (List Str)) ([] : (List Int)))) rfl (op_build ud44 pl44 zv44 zc44 (.cons (R := rS) (u := ([115,105,122,101] : Str)) rfl .k (leb rfl) <| .cons (R := rI) (u := (2:Int)) rfl .k (leb rfl) <| .cons (R := rI) (u := (IntKind.i64.wrap (t14.1 - (5:Int)))) rfl z4 (leb rfl) <| .cons (R := rI) (u := (IntKind.i64.wrap ((IntKind.i64.wrap (t14.1 - (5:Int))) + t19.1))) rfl z0 (leb rfl) <| .nil _)) <| .o (op_buildSl (R := rSapi_Field) (us := [(Sapi_Field.mk ([115,105,122,101] : Str) ([] : Str) ([] : Str) (2:Int) (IntKind.i64.wrap (t14.1 - (5:Int))) (IntKind.i64.wrap ((IntKind.i64.wrap (t14.1 - (5:Int))) + t19.1)) ([] : (List Str)) ([] : (List Int)))]) ud45 tok44 (.cons z0 <| .nil _) rfl (leb rfl)) <| .o (op_assign z0) <| .n) fun n4 a w hst => ?_
  replace hst := hst.to [7,9] [_,_] [_] rfl rfl
  refine wp_ret ?_
  obtain rfl := sj h
  exact ret_st undef [0] hpl hst rfl (.tmp z0 .nil) rfl rfl rfl
 ·replace h := ite_f b50 h
  refine sr mixed [] hst (fun _ => .o (op_eql z1 .k) <| .o (op_assign z0) <| .n) fun n5 a w hst => ?_
  replace hst := hst.to [1,3,4] [_,_,_] [_] rfl rfl
  refine wt hst (fun b49 => ?_) (fun b49 => ?_)
  ·replace h := ite_t b49 h
   obtain ⟨t27,ht27,h⟩ := bind_some h
   obtain ⟨t29,ht29,h⟩ := bind_some h
   refine sr mixed [v0 (box (rSref09_Maker.cs t27.2) q0)] hst (fun _ => .o (op_buildSl (R := rS) (us := [([114,101,100] : Str),([103,114,101,101,110] : Str),([98,108,117,101] : Str)]) ud38 tok9 (.cons .k <| .cons .k <| .cons .k <| .nil _) rfl (leb rfl)) <| .q 3 rfl <| .e [] [0] [1] rfl rfl rfl rfl (op_callF call51 (ref09_Maker_Take_ok ht27) (.cons (.of z0) <| .cons (.of .k) <| .nil)) <| .o (op_add .k z0) <| .o (op_slice ud38 tok9 z3 (.no _) (.op z0) ht29) <| .o (op_assign z0) <| .n) fun n6 a w hst => ?_
   replace hst := hst.to [5,8] [_,_] [_] rfl rfl
   refine sr mixed [v1 2 (fun v0 => box (rSapi_Field.cs zz0) v0),v1 2 (fun v0 => box ([tv (.string (sB ([116,97,103] : Str))),tv (.string (sB ([] : Str))),tv (.string (sB ([] : Str))),ti (3:Int),ti (0:Int),ti (0:Int),tsl rS t29,tvs nilV]) v0)] hst (fun _ => .q 0 rfl <| .p (T := tagg ([tv (.string (sB ([116,97,103] : Str))),tv (.string (sB ([] : Str))),tv (.string (sB ([] : Str))),ti (3:Int),ti (0:Int),ti (0:Int),tsl rS t29,tvs nilV])) rfl (op_build ud44 pl44 zv44 (zagg44_7).1 (.cons (R := rS) (u := ([116,97,103] : Str)) rfl .k (leb rfl) <| .cons (R := rI) (u := (3:Int)) rfl .k (leb rfl) <| .cons (R := (rSl rS)) (u := t29) rfl z0 (leb rfl) <| .nil _)) <| .m [] [1] rfl rfl rfl (op_alloc (R := rSapi_Field) (a := zz0) tok44 zok44) <| .e [] [1] [2] rfl rfl rfl rfl (op_storeB (R := (rAgg ([tv (.string (sB ([116,97,103] : Str))),tv (.string (sB ([] : Str))),tv (.string (sB ([] : Str))),ti (3:Int),ti (0:Int),ti (0:Int),tsl rS t29,tvs nilV]) (one_cons (one_tv rfl) (one_cons (one_tv rfl) (one_cons (one_tv rfl) (one_cons (one_tv rfl) (one_cons (one_tv rfl) (one_cons (one_tv rfl) (one_cons one_tsl (one_cons one_tvs one_nil)))))))))) (a := ()) (tokA tok44 (one_cons (one_tv rfl) (one_cons (one_tv rfl) (one_cons (one_tv rfl) (one_cons (one_tv rfl) (one_cons (one_tv rfl) (one_cons (one_tv rfl) (one_cons one_tsl (one_cons one_tvs one_nil)))))))) rfl rfl) z0 z1 (leb rfl)) <| .n) fun n7 a w hst => ?_
   replace hst : St _ _ _ [_,_,_] [_,_,_] _ _ := (hst.pick [2,3,4]).nil (rI) 3
   refine wp_seq_k (fun K13 hK13 => ?_)
   refine sr mixed [] hst (fun _ => .o (op_assign .k) <| .n) fun n8 a w hst => ?_
   replace hst := hst.to [0,1,2,3] [_,_,_,_] [_,_,_] rfl rfl
   obtain ⟨e16,he16,h⟩ := bind_some h
   have hJp26 : ∀ (p26 : List Int × Sref09_Maker) (v27 : Value) a w,p26 = e16 → St M w0 103 [(5,tv (n7 2)),(4,tsl rS t29),(0,tv q0)] [own rI 3 p26.1 v27,box (rSref09_Maker.cs p26.2) q0,box ([tv (.string (sB ([116,97,103] : Str))),tv (.string (sB ([] : Str))),tv (.string (sB ([] : Str))),ti (3:Int),ti (0:Int),ti (0:Int),tsl rS t29,tvs v27]) (n7 2)] a w → K13 a w := by
    intro p26 v27 a w he hst
    subst he
    refine hK13 _ _ ?_
    try clear hK13 K13
    obtain ⟨t50,ht50,h⟩ := bind_some h
    obtain ⟨t52,ht52,h⟩ := bind_some h
    obtain ⟨t54s,ht54s,h⟩ := bind_some h
    refine sr mixed [v0 (box (rSref09_Maker.cs t50.2) q0),v0 (box (rSref09_Maker.cs t52.2) q0),v0 (own rI 3 t54s v27)] hst (fun _ => .u [2] rfl rfl (op_fieldB fld44_7 z0) <| .u [2] rfl rfl (op_loadBVf (u := v27) tokV22 z0 rfl) <| .q 4 rfl <| .q 4 rfl <| .o (op_len ud38 z0) <| .e [] [1] [3] rfl rfl rfl rfl (op_callF call51 (ref09_Maker_Take_ok ht50) (.cons (.of z2) <| .cons (.of z0) <| .nil)) <| .q 8 rfl <| .e [] [3] [4] rfl rfl rfl rfl (op_callF call51 (ref09_Maker_Take_ok ht52) (.cons (.of z0) <| .cons (.of .k) <| .nil)) <| .o (op_add .k z0) <| .u [0] rfl rfl (op_indexOs ud22 tok3 z7 z3 ht54s) <| .e [] [0] [5] rfl rfl rfl rfl (op_storeO tok3 z0 z1 ht54s) <| .n) fun n12 a w hst => ?_
    replace hst := hst.to [1,10,12] [_,_,_] [_,_,_] rfl rfl
    refine wp_seq_k (fun K29 hK29 => ?_)
    replace hst : St _ _ _ [_,_] [_,_] _ _ := ((hst.pick [1,2]).selA [2,0,1] rfl).shareC 7 rfl
    refine wr mixed [] hst (fun _ => .u [0] rfl rfl (op_loadB (R := rSapi_Field) (u := (Sapi_Field.mk ([116,97,103] : Str) ([] : Str) ([] : Str) (3:Int) (0:Int) (0:Int) t29 t54s)) tok44 z0 rfl) <| .o (op_buildSl (R := rSapi_Field) (us := [(Sapi_Field.mk ([116,97,103] : Str) ([] : Str) ([] : Str) (3:Int) (0:Int) (0:Int) t29 t54s)]) ud45 tok44 (.cons z0 <| .nil _) rfl (leb rfl)) <| .o (op_assign z0) <| .n) fun n13 a w hst => ?_
    replace hst : St _ _ _ [_,_] [_] _ _ := (hst.pick [2,4]).selA [1] rfl
    refine hK29 _ _ ?_
    try clear hK29 K29
    refine wp_ret ?_
    obtain rfl := sj h
    exact ret_st undef [0] hpl hst rfl (.tmp z0 .nil) rfl rfl rfl
   refine wp_block ?_
   refine wp_loopK _ (fun (s15 : Int × List Int × Sref09_Maker) a w => ∃ v21 : Value,St M w0 103 [(6,ti s15.1),(5,tv (n7 2)),(4,tsl rS t29),(0,tv q0)] [own rI 3 s15.2.1 v21,box (rSref09_Maker.cs s15.2.2) q0,box ([tv (.string (sB ([116,97,103] : Str))),tv (.string (sB ([] : Str))),tv (.string (sB ([] : Str))),ti (3:Int),ti (0:Int),ti (0:Int),tsl rS t29,tvs v21]) (n7 2)] a w) _ _ he16 ⟨nilV,hst.pick [0,1,2,3]⟩ ?_
   clear h
   intro s15 o a w K30 hI h ho hK30
   obtain ⟨v21,hst⟩ := hI
   refine wp_seq_k (fun K31 hK31 => ?_)
   refine sr mixed [] hst (fun _ => .q 0 rfl <| .q 3 rfl <| .o (op_len ud38 z0) <| .o (op_lss z2 z0) <| .n) fun n9 a w hst => ?_
   replace hst := hst.to [3,4,5,6,7] [_,_,_,_,_] [_,_,_] rfl rfl
   refine wt hst (fun b34 => ?_) (fun b34 => ?_)
   ·replace h := ite_t b34 h
    refine wp_skip ?_
    refine hK31 _ _ ?_
    try clear hK31 K31
    refine wp_seq_k (fun K33 hK33 => ?_)
    refine wp_block ?_
    obtain ⟨t41,ht41,h⟩ := bind_some h
    obtain ⟨u43,hu43,h⟩ := bind_some h
    refine wr mixed [v0 (box (rSref09_Maker.cs t41.2) q0),v1 5 (fun v0 => own rI 3 (s15.2.1 ++ [t41.1]) v0),v1 5 (fun v0 => box ([tv (.string (sB ([116,97,103] : Str))),tv (.string (sB ([] : Str))),tv (.string (sB ([] : Str))),ti (3:Int),ti (0:Int),ti (0:Int),tsl rS t29,tvs v0]) (n7 2))] hst (fun _ => .u [2] rfl rfl (op_fieldB fld44_7 z2) <| .u [2] rfl rfl (op_loadBVf (u := v21) tokV22 z0 rfl) <| .q 6 rfl <| .e [] [1] [3] rfl rfl rfl rfl (op_callF call51 (ref09_Maker_Take_ok ht41) (.cons (.of z0) <| .cons (.of .k) <| .nil)) <| .o (op_buildSl (R := rI) (us := [t41.1]) ud22 tok3 (.cons z0 <| .nil _) rfl (leb rfl)) <| .e [] [0] [4] rfl rfl rfl rfl (op_append (R := rI) ud22 tok3 (leb rfl) z3 z0 hu43) <| .u [2] rfl rfl (op_fieldB fld44_7 z8) <| .e [4] [2] [5] rfl rfl rfl rfl (op_storeBVf (R := rI) (e := 3) (Ts := ([tv (.string (sB ([116,97,103] : Str))),tv (.string (sB ([] : Str))),tv (.string (sB ([] : Str))),ti (3:Int),ti (0:Int),ti (0:Int),tsl rS t29,tvs v21])) (off := 7) tokV22 z0 z1 (leb rfl)) <| .n) fun n11 a w hst => ?_
    replace hst := hst.to [5,8,9,10,11] [_,_,_,_,_] [_,_,_] rfl rfl
    refine hK33 _ _ ?_
    try clear hK33 K33
    refine wr mixed [] hst (fun _ => .q 1 rfl <| .o (op_add z0 .k) <| .o (op_assign z0) <| .n) fun n10 a w hst => ?_
    replace hst := hst.to [2,3,4,5,6] [_,_,_,_,_] [_,_,_] rfl rfl
    exact hK30 _ _ _ (sj h).symm ⟨(n11 5),(hst.pick [0,2,3,4]).selA [1,0,2] rfl⟩
   ·replace h := ite_f b34 h
    refine wp_exit ?_
    exact hJp26 _ v21 _ _ (ho _ (sj h).symm) (hst.pick [2,3,4])
  ·replace h := ite_f b49 h
   refine sr mixed [] hst (fun _ => .o (op_eql z1 .k) <| .o (op_assign z0) <| .n) fun n14 a w hst => ?_
   replace hst := hst.to [1,3,4] [_,_,_] [_] rfl rfl
   refine wt hst (fun b48 => ?_) (fun b48 => ?_)
   ·replace h := ite_t b48 h
    obtain ⟨t60,ht60,h⟩ := bind_some h
    refine sr mixed [v0 (box (rSref09_Maker.cs t60.2) q0),v1 4 (fun v0 => box (rSapi_Field.cs zz0) v0),v1 4 (fun v0 => box (rSapi_Field.cs (Sapi_Field.mk ([98,111,114,110] : Str) ([] : Str) ([] : Str) (4:Int) (IntKind.i64.wrap (t60.1 - (200:Int))) (0:Int) ([] : (List Str)) ([] : (List Int)))) v0)] hst (fun _ => .q 2 rfl <| .e [] [0] [1] rfl rfl rfl rfl (op_callF call51 (ref09_Maker_Take_ok ht60) (.cons (.of z0) <| .cons (.of .k) <| .nil)) <| .o (op_sub z0 .k) <| .p (T := rSapi_Field.ty (Sapi_Field.mk ([98,111,114,110] : Str) ([] : Str) ([] : Str) (4:Int) (IntKind.i64.wrap (t60.1 - (200:Int))) (0:Int) ([] : (List Str)) ([] : (List Int)))) rfl (op_build ud44 pl44 zv44 zc44 (.cons (R := rS) (u := ([98,111,114,110] : Str)) rfl .k (leb rfl) <| .cons (R := rI) (u := (4:Int)) rfl .k (leb rfl) <| .cons (R := rI) (u := (IntKind.i64.wrap (t60.1 - (200:Int)))) rfl z0 (leb rfl) <| .nil _)) <| .m [] [2] rfl rfl rfl (op_alloc (R := rSapi_Field) (a := zz0) tok44 zok44) <| .e [] [2] [3] rfl rfl rfl rfl (op_storeB (R := rSapi_Field) (a := (Sapi_Field.mk ([98,111,114,110] : Str) ([] : Str) ([] : Str) (4:Int) (IntKind.i64.wrap (t60.1 - (200:Int))) (0:Int) ([] : (List Str)) ([] : (List Int)))) tok44 z0 z1 (leb rfl)) <| .n) fun n15 a w hst => ?_
    replace hst := hst.to [4,7] [_,_] [_,_] rfl rfl
    obtain ⟨t66,ht66,h⟩ := bind_some h
    refine sr mixed [v0 (box (rSref09_Maker.cs t66.2) q0),v0 (box (rSapi_Field.cs (Sapi_Field.mk ([98,111,114,110] : Str) ([] : Str) ([] : Str) (4:Int) (IntKind.i64.wrap (t60.1 - (200:Int))) (IntKind.i64.wrap ((IntKind.i64.wrap (t60.1 - (200:Int))) + t66.1)) ([] : (List Str)) ([] : (List Int)))) (n15 4))] hst (fun _ => .u [1] rfl rfl (op_fieldB fld44_4 z0) <| .u [1] rfl rfl (op_loadBf (R := rI) (u := (IntKind.i64.wrap (t60.1 - (200:Int)))) tok3 z0 rfl) <| .q 3 rfl <| .e [] [0] [2] rfl rfl rfl rfl (op_callF call51 (ref09_Maker_Take_ok ht66) (.cons (.of z0) <| .cons (.of .k) <| .nil)) <| .o (op_add z2 z0) <| .u [1] rfl rfl (op_fieldB fld44_5 z5) <| .e [] [1] [3] rfl rfl rfl rfl (op_storeBf (R := rI) (a := (IntKind.i64.wrap ((IntKind.i64.wrap (t60.1 - (200:Int))) + t66.1))) (Ts := (rSapi_Field.cs (Sapi_Field.mk ([98,111,114,110] : Str) ([] : Str) ([] : Str) (4:Int) (IntKind.i64.wrap (t60.1 - (200:Int))) (0:Int) ([] : (List Str)) ([] : (List Int))))) (off := 5) tok3 z0 z1 (leb rfl)) <| .n) fun n16 a w hst => ?_
    replace hst := hst.to [6,7] [_,_] [_,_] rfl rfl
    obtain ⟨t71,ht71,h⟩ := bind_some h
    obtain ⟨t73,ht73,h⟩ := bind_some h
    refine sr mixed [v0 (box (rSref09_Maker.cs t71.2) q0),v0 (box (rSref09_Maker.cs t73.2) q0)] hst (fun _ => .u [1] rfl rfl (op_loadB (R := rSapi_Field) (u := (Sapi_Field.mk ([98,111,114,110] : Str) ([] : Str) ([] : Str) (4:Int) (IntKind.i64.wrap (t60.1 - (200:Int))) (IntKind.i64.wrap ((IntKind.i64.wrap (t60.1 - (200:Int))) + t66.1)) ([] : (List Str)) ([] : (List Int)))) tok44 z0 rfl) <| .q 2 rfl <| .e [] [0] [2] rfl rfl rfl rfl (op_callF call51 (ref09_Maker_Take_ok ht71) (.cons (.of z0) <| .cons (.of .k) <| .nil)) <| .q 4 rfl <| .e [] [2] [3] rfl rfl rfl rfl (op_callF call51 (ref09_Maker_Take_ok ht73) (.cons (.of z0) <| .cons (.of .k) <| .nil)) <| .o (op_add .k z0) <| .p (T := rSapi_Field.ty (Sapi_Field.mk ([108,101,102,116] : Str) ([98,111,114,110] : Str) ([] : Str) (4:Int) t71.1 (IntKind.i64.wrap ((3:Int) + t73.1)) ([] : (List Str)) ([] : (List Int)))) rfl (op_build ud44 pl44 zv44 zc44 (.cons (R := rS) (u := ([108,101,102,116] : Str)) rfl .k (leb rfl) <| .cons (R := rI) (u := (4:Int)) rfl .k (leb rfl) <| .cons (R := rS) (u := ([98,111,114,110] : Str)) rfl .k (leb rfl) <| .cons (R := rI) (u := t71.1) rfl z3 (leb rfl) <| .cons (R := rI) (u := (IntKind.i64.wrap ((3:Int) + t73.1))) rfl z0 (leb rfl) <| .nil _)) <| .o (op_buildSl (R := rSapi_Field) (us := [(Sapi_Field.mk ([98,111,114,110] : Str) ([] : Str) ([] : Str) (4:Int) (IntKind.i64.wrap (t60.1 - (200:Int))) (IntKind.i64.wrap ((IntKind.i64.wrap (t60.1 - (200:Int))) + t66.1)) ([] : (List Str)) ([] : (List Int))),(Sapi_Field.mk ([108,101,102,116] : Str) ([98,111,114,110] : Str) ([] : Str) (4:Int) t71.1 (IntKind.i64.wrap ((3:Int) + t73.1)) ([] : (List Str)) ([] : (List Int)))]) ud45 tok44 (.cons z6 <| .cons z0 <| .nil _) rfl (leb rfl)) <| .o (op_assign z0) <| .n) fun n17 a w hst => ?_
    replace hst : St _ _ _ [_,_] [_] _ _ := (hst.pick [8,10]).selA [1] rfl
    refine wp_ret ?_
    obtain rfl := sj h
    exact ret_st undef [0] hpl hst rfl (.tmp z0 .nil) rfl rfl rfl
   ·replace h := ite_f b48 h
    refine sr mixed [] hst (fun _ => .o (op_eql z1 .k) <| .o (op_assign z0) <| .n) fun n18 a w hst => ?_
    replace hst := hst.to [1,3,4] [_,_,_] [_] rfl rfl
    refine wt hst (fun b47 => ?_) (fun b47 => ?_)
    ·replace h := ite_t b47 h
     obtain ⟨t80,ht80,h⟩ := bind_some h
     refine sr mixed [v0 (box (rSref09_Maker.cs t80.2) q0)] hst (fun _ => .q 2 rfl <| .e [] [0] [1] rfl rfl rfl rfl (op_callF call51 (ref09_Maker_Take_ok ht80) (.cons (.of z0) <| .cons (.of .k) <| .nil)) <| .o (op_assign z0) <| .n) fun n19 a w hst => ?_
     replace hst := hst.to [2,5] [_,_] [_] rfl rfl
     obtain ⟨t84,ht84,h⟩ := bind_some h
     refine sr mixed [v0 (box (rSref09_Maker.cs t84.2) q0)] hst (fun _ => .q 0 rfl <| .q 1 rfl <| .q 3 rfl <| .e [] [0] [1] rfl rfl rfl rfl (op_callF call51 (ref09_Maker_Take_ok ht84) (.cons (.of z0) <| .cons (.of .k) <| .nil)) <| .o (op_add z2 z0) <| .p (T := rSapi_Field.ty (Sapi_Field.mk ([115,116,97,116,101] : Str) ([108,105,102,101] : Str) ([] : Str) (5:Int) t80.1 (IntKind.i64.wrap (t80.1 + t84.1)) ([] : (List Str)) ([] : (List Int)))) rfl (op_build ud44 pl44 zv44 zc44 (.cons (R := rS) (u := ([115,116,97,116,101] : Str)) rfl .k (leb rfl) <| .cons (R := rI) (u := (5:Int)) rfl .k (leb rfl) <| .cons (R := rS) (u := ([108,105,102,101] : Str)) rfl .k (leb rfl) <| .cons (R := rI) (u := t80.1) rfl z4 (leb rfl) <| .cons (R := rI) (u := (IntKind.i64.wrap (t80.1 + t84.1))) rfl z0 (leb rfl) <| .nil _)) <| .o (op_buildSl (R := rSapi_Field) (us := [(Sapi_Field.mk ([115,116,97,116,101] : Str) ([108,105,102,101] : Str) ([] : Str) (5:Int) t80.1 (IntKind.i64.wrap (t80.1 + t84.1)) ([] : (List Str)) ([] : (List Int)))]) ud45 tok44 (.cons z0 <| .nil _) rfl (leb rfl)) <| .o (op_assign z0) <| .n) fun n20 a w hst => ?_
     replace hst := hst.to [7,9] [_,_] [_] rfl rfl
     refine wp_ret ?_
     obtain rfl := sj h
     exact ret_st undef [0] hpl hst rfl (.tmp z0 .nil) rfl rfl rfl
    ·replace h := ite_f b47 h
     refine sr mixed [] hst (fun _ => .o (op_eql z1 .k) <| .o (op_assign z0) <| .n) fun n21 a w hst => ?_
     replace hst := hst.to [1,4] [_,_] [_] rfl rfl
     refine wt hst (fun b46 => ?_) (fun b46 => ?_)
     ·replace h := ite_t b46 h
      obtain ⟨t91,ht91,h⟩ := bind_some h
      obtain ⟨t93,ht93,h⟩ := bind_some h
      obtain ⟨t97,ht97,h⟩ := bind_some h
      obtain ⟨t99,ht99,h⟩ := bind_some h
      refine sr mixed [v0 (box (rSref09_Maker.cs t91.2) q0),v0 (box (rSref09_Maker.cs t93.2) q0),v0 (box (rSref09_Maker.cs t97.2) q0),v0 (box (rSref09_Maker.cs t99.2) q0)] hst (fun _ => .q 1 rfl <| .e [] [0] [1] rfl rfl rfl rfl (op_callF call51 (ref09_Maker_Take_ok ht91) (.cons (.of z0) <| .cons (.of .k) <| .nil)) <| .q 3 rfl <| .e [] [1] [2] rfl rfl rfl rfl (op_callF call51 (ref09_Maker_Take_ok ht93) (.cons (.of z0) <| .cons (.of .k) <| .nil)) <| .o (op_add .k z0) <| .p (T := rSapi_Field.ty (Sapi_Field.mk ([108,111,119] : Str) ([] : Str) ([] : Str) (2:Int) t91.1 (IntKind.i64.wrap ((5:Int) + t93.1)) ([] : (List Str)) ([] : (List Int)))) rfl (op_build ud44 pl44 zv44 zc44 (.cons (R := rS) (u := ([108,111,119] : Str)) rfl .k (leb rfl) <| .cons (R := rI) (u := (2:Int)) rfl .k (leb rfl) <| .cons (R := rI) (u := t91.1) rfl z3 (leb rfl) <| .cons (R := rI) (u := (IntKind.i64.wrap ((5:Int) + t93.1))) rfl z0 (leb rfl) <| .nil _)) <| .q 7 rfl <| .e [] [2] [3] rfl rfl rfl rfl (op_callF call51 (ref09_Maker_Take_ok ht97) (.cons (.of z0) <| .cons (.of .k) <| .nil)) <| .q 9 rfl <| .e [] [3] [4] rfl rfl rfl rfl (op_callF call51 (ref09_Maker_Take_ok ht99) (.cons (.of z0) <| .cons (.of .k) <| .nil)) <| .o (op_add .k z0) <| .p (T := rSapi_Field.ty (Sapi_Field.mk ([104,105,103,104] : Str) ([] : Str) ([] : Str) (2:Int) t97.1 (IntKind.i64.wrap ((10:Int) + t99.1)) ([] : (List Str)) ([] : (List Int)))) rfl (op_build ud44 pl44 zv44 zc44 (.cons (R := rS) (u := ([104,105,103,104] : Str)) rfl .k (leb rfl) <| .cons (R := rI) (u := (2:Int)) rfl .k (leb rfl) <| .cons (R := rI) (u := t97.1) rfl z3 (leb rfl) <| .cons (R := rI) (u := (IntKind.i64.wrap ((10:Int) + t99.1))) rfl z0 (leb rfl) <| .nil _)) <| .o (op_buildSl (R := rSapi_Field) (us := [(Sapi_Field.mk ([108,111,119] : Str) ([] : Str) ([] : Str) (2:Int) t91.1 (IntKind.i64.wrap ((5:Int) + t93.1)) ([] : (List Str)) ([] : (List Int))),(Sapi_Field.mk ([104,105,103,104] : Str) ([] : Str) ([] : Str) (2:Int) t97.1 (IntKind.i64.wrap ((10:Int) + t99.1)) ([] : (List Str)) ([] : (List Int)))]) ud45 tok44 (.cons z6 <| .cons z0 <| .nil _) rfl (leb rfl)) <| .o (op_assign z0) <| .n) fun n22 a w hst => ?_
      replace hst := hst.to [13,15] [_,_] [_] rfl rfl
      refine wp_ret ?_
      obtain rfl := sj h
      exact ret_st undef [0] hpl hst rfl (.tmp z0 .nil) rfl rfl rfl
     ·replace h := ite_f b46 h
      refine wp_skip ?_
      refine hK3 _ _ ?_
      try clear hK3 K3
      refine sr mixed [] hst (fun _ => .o (op_assign (.nilsl (R := rSapi_Field))) <| .n) fun n23 a w hst => ?_
      replace hst := hst.to [0,2] [_,_] [_] rfl rfl
      refine wp_ret ?_
      obtain rfl := sj h
      exact ret_st undef [0] hpl hst rfl (.tmp z0 .nil) rfl rfl rfl

/- (*diorama/dioramaref09.Maker).kind -/
noncomputable def fref09_Maker_kind (m_ : Sref09_Maker) (l_ : (List Sapi_Kind)) : Option (Sapi_Kind × Sref09_Maker × (List Sapi_Kind)) := (fref09_Maker_Take m_ (6:Int)).bind fun t18 => (idx [(0:Int),(1:Int),(2:Int),(4:Int),(1:Int),(2:Int)] t18.1).bind fun t19 => (idx [([112,101,114,115,111,110] : Str),([111,114,100,101,114] : Str),([105,116,101,109] : Str)] (l_.length : Int)).bind fun t23 => (fref09_Maker_Take t18.2 (5:Int)).bind fun t28 => (fref09_Maker_Take t28.2 (4:Int)).bind fun t35 => (idx [(0:Int),(1:Int),(100:Int),(-3:Int)] t35.1).bind fun t36 => (rm (([] : List Sapi_Field).length + [(Sapi_Field.mk ([105,100] : Str) ([] : Str) ([] : Str) (0:Int) t36 (0:Int) ([] : (List Str)) ([] : (List Int)))].length)).bind fun _ => ((if (decide ((l_.length : Int) > (0:Int))) = true then (fref09_Maker_Take t35.2 (l_.length : Int)).bind fun t46 => (idx l_ t46.1).bind fun t49 => (fref09_Maker_Take t46.2 (4:Int)).bind fun t54 => (idx [(4:Int),(3:Int),(8:Int),(2:Int)] t54.1).bind fun t55 => (fref09_Maker_Take t54.2 (5:Int)).bind fun t59 => ((if (t59.1 == (0:Int)) = true then (some (Sapi_Field.mk ([111,102] : Str) (t49).Name ([] : Str) (1:Int) (1:Int) t55 ([] : (List Str)) ([] : (List Int)))) else (some (Sapi_Field.mk ([111,102] : Str) (t49).Name ([] : Str) (1:Int) (0:Int) t55 ([] : (List Str)) ([] : (List Int)))))).bind fun (p75 : Sapi_Field) => (rm ((([] : List Sapi_Field) ++ [(Sapi_Field.mk ([105,100] : Str) ([] : Str) ([] : Str) (0:Int) t36 (0:Int) ([] : (List Str)) ([] : (List Int)))]).length + [p75].length)).bind fun _ => (idx l_ t46.1).bind fun t70 => (fref09_Copied t70).bind fun t72 => (opt ((decide (t72 ≥ (0:Int))) == true) (fref09_Maker_Take t59.2 (2:Int)) default).bind fun t77 => ((if ((decide (t72 ≥ (0:Int))) && (t77.1 == (0:Int))) = true then (idx l_ t46.1).bind fun t84 => (idx (t84).Fields t72).bind fun t88 => (rm (((([] : List Sapi_Field) ++ [(Sapi_Field.mk ([105,100] : Str) ([] : Str) ([] : Str) (0:Int) t36 (0:Int) ([] : (List Str)) ([] : (List Int)))]) ++ [p75]).length + [(Sapi_Field.mk ([115,97,109,101] : Str) (t88).Name ([111,102] : Str) (8:Int) (0:Int) (0:Int) ([] : (List Str)) ([] : (List Int)))].length)).bind fun _ => (some (((([] : List Sapi_Field) ++ [(Sapi_Field.mk ([105,100] : Str) ([] : Str) ([] : Str) (0:Int) t36 (0:Int) ([] : (List Str)) ([] : (List Int)))]) ++ [p75]) ++ [(Sapi_Field.mk ([115,97,109,101] : Str) (t88).Name ([111,102] : Str) (8:Int) (0:Int) (0:Int) ([] : (List Str)) ([] : (List Int)))])) else (some ((([] : List Sapi_Field) ++ [(Sapi_Field.mk ([105,100] : Str) ([] : Str) ([] : Str) (0:Int) t36 (0:Int) ([] : (List Str)) ([] : (List Int)))]) ++ [p75])))).bind fun (p81 : List Sapi_Field) => (idx l_ t46.1).bind fun t97 => (fref09_has (t97).Fields ([116,111,116,97,108] : Str)).bind fun t100 => (opt ((decide (t100 < (0:Int))) == true) (fref09_Maker_Take (bif ((decide (t72 ≥ (0:Int))) == true) then t77.2 else t59.2) (3:Int)) default).bind fun t104 => ((if ((decide (t100 < (0:Int))) && (t104.1 == (0:Int))) = true then (fref09_Maker_Take (bif ((decide (t100 < (0:Int))) == true) then t104.2 else (bif ((decide (t72 ≥ (0:Int))) == true) then t77.2 else t59.2)) (3:Int)).bind fun t108 => (fref09_Maker_Take t108.2 (8:Int)).bind fun t114 => (rm (p81.length + [(Sapi_Field.mk ([112,97,114,116] : Str) ([116,111,116,97,108] : Str) ([111,102] : Str) (7:Int) t108.1 (IntKind.i64.wrap (t108.1 + t114.1)) ([] : (List Str)) ([] : (List Int)))].length)).bind fun _ => (idx l_ t46.1).bind fun t125 => (rm (([] : List Sapi_Field).length + (t125).Fields.length)).bind fun _ => (rm ((([] : List Sapi_Field) ++ (t125).Fields).length + [(Sapi_Field.mk ([116,111,116,97,108] : Str) t23 ([] : Str) (6:Int) (0:Int) (0:Int) ([] : (List Str)) ([] : (List Int)))].length)).bind fun _ => (idx l_ t46.1).bind fun t134 => (setAt l_ t46.1 { t134 with Fields := ((([] : List Sapi_Field) ++ (t125).Fields) ++ [(Sapi_Field.mk ([116,111,116,97,108] : Str) t23 ([] : Str) (6:Int) (0:Int) (0:Int) ([] : (List Str)) ([] : (List Int)))]) }).bind fun t134s => (some (t114.2,(p81 ++ [(Sapi_Field.mk ([112,97,114,116] : Str) ([116,111,116,97,108] : Str) ([111,102] : Str) (7:Int) t108.1 (IntKind.i64.wrap (t108.1 + t114.1)) ([] : (List Str)) ([] : (List Int)))]),t134s)) else (some ((bif ((decide (t100 < (0:Int))) == true) then t104.2 else (bif ((decide (t72 ≥ (0:Int))) == true) then t77.2 else t59.2)),p81,l_)))).bind fun (p85 : Sref09_Maker × List Sapi_Field × List Sapi_Kind) => (some (p85.1,p85.2.1,p85.2.2)) else (some (t35.2,(([] : List Sapi_Field) ++ [(Sapi_Field.mk ([105,100] : Str) ([] : Str) ([] : Str) (0:Int) t36 (0:Int) ([] : (List Str)) ([] : (List Int)))]),l_)))).bind fun (p13 : Sref09_Maker × List Sapi_Field × List Sapi_Kind) => (opt ((decide ((l_.length : Int) > (1:Int))) == true) (fref09_Maker_Take p13.1 (3:Int)) default).bind fun t140 => ((if ((decide ((l_.length : Int) > (1:Int))) && (t140.1 == (0:Int))) = true then (idx p13.2.2 (0:Int)).bind fun t146 => (rm (p13.2.1.length + [(Sapi_Field.mk ([98,121] : Str) (t146).Name ([] : Str) (1:Int) (0:Int) (8:Int) ([] : (List Str)) ([] : (List Int)))].length)).bind fun _ => (some (p13.2.1 ++ [(Sapi_Field.mk ([98,121] : Str) (t146).Name ([] : Str) (1:Int) (0:Int) (8:Int) ([] : (List Str)) ([] : (List Int)))])) else (some p13.2.1))).bind fun (p45 : List Sapi_Field) => (fref09_Maker_plain (bif ((decide ((l_.length : Int) > (1:Int))) == true) then t140.2 else p13.1)).bind fun t154 => (rm (p45.length + t154.1.length)).bind fun _ => (fref09_Maker_Take t154.2 (2:Int)).bind fun t161 => ((if (t161.1 == (0:Int)) = true then (fref09_Maker_plain t161.2).bind fun t164 => (opt ((decide ((t164.1.length : Int) > (0:Int))) == true) (idx t164.1 (0:Int)) default).bind fun t172 => (opt ((decide ((t164.1.length : Int) > (0:Int))) == true) (fref09_has (p45 ++ t154.1) (t172).Name) default).bind fun t175 => ((if ((decide ((t164.1.length : Int) > (0:Int))) && (decide (t175 < (0:Int)))) = true then (rm ((p45 ++ t154.1).length + t164.1.length)).bind fun _ => (some ((p45 ++ t154.1) ++ t164.1)) else (some (p45 ++ t154.1)))).bind fun (p64 : List Sapi_Field) => (some (t164.2,p64)) else (some (t161.2,(p45 ++ t154.1))))).bind fun (p52 : Sref09_Maker × List Sapi_Field) => (some ((Sapi_Kind.mk t23 t19 (IntKind.i64.wrap (t19 + t28.1)) p52.2),p52.1,p13.2.2))
set_option maxRecDepth 100000 in
set_option maxHeartbeats 4000000 in
theorem ref09_Maker_kind_ok {q0 : Value} {vh1 : Value} {m_ : Sref09_Maker} {l_ : (List Sapi_Kind)} {r : Sapi_Kind × Sref09_Maker × (List Sapi_Kind)} (h : fref09_Maker_kind m_ l_ = some r) : FnOk Tryz.prog 52 [tv q0,tv vh1] [box (rSref09_Maker.cs m_) q0,own rSapi_Kind 47 l_ vh1] (fun _ => [box (rSref09_Maker.cs r.2.1) q0,own rSapi_Kind 47 r.2.2 vh1]) (fun _ => rSapi_Kind.ty r.1) := by
 unfold fref09_Maker_kind at h
 refine FnOk.enter Tryz.func52 rfl Tryz.ntmps52 (leb rfl) (fun M0 M w0 a hpl hst => ?_)
 replace hst : St M w0 184 [(0,tv q0),(1,tv vh1)] [box (rSref09_Maker.cs m_) q0,own rSapi_Kind 47 l_ vh1] a w0 := hst
 refine sr mixed [v1 0 (fun v0 => box (rSapi_Kind.cs zz1) v0)] hst (fun _ => .m [] [2] rfl rfl rfl (op_alloc (R := rSapi_Kind) (a := zz1) tok47 zok47) <| .n) fun n0 a w hst => ?_
 replace hst := hst.to [0,1,2] [_,_,_] [_,_,_] rfl rfl
 refine sr mixed [] hst (fun _ => .q 2 rfl <| .u [1] rfl rfl (op_lenO ud30 z0) <| .o (op_assign z0) <| .n) fun n1 a w hst => ?_
 replace hst := hst.to [0,2,3,4,5] [_,_,_,_,_] [_,_,_] rfl rfl
 obtain ⟨t18,ht18,h⟩ := bind_some h
 obtain ⟨t19,ht19,h⟩ := bind_some h
 refine sr mixed [v0 (box (rSref09_Maker.cs t18.2) q0)] hst (fun _ => .o (op_buildSl (R := rI) (us := [(0:Int),(1:Int),(2:Int),(4:Int),(1:Int),(2:Int)]) ud22 tok3 (.cons .k <| .cons .k <| .cons .k <| .cons .k <| .cons .k <| .cons .k <| .nil _) rfl (leb rfl)) <| .q 4 rfl <| .e [] [0] [3] rfl rfl rfl rfl (op_callF call51 (ref09_Maker_Take_ok ht18) (.cons (.of z0) <| .cons (.of .k) <| .nil)) <| .o (op_index ud22 tok3 z2 z0 ht19) <| .o (op_load tok3 z0) <| .o (op_assign z0) <| .n) fun n2 a w hst => ?_
 replace hst := hst.to [5,6,7,8,9,10] [_,_,_,_,_,_] [_,_,_] rfl rfl
 obtain ⟨t23,ht23,h⟩ := bind_some h
 obtain ⟨t28,ht28,h⟩ := bind_some h
 refine sr mixed [v0 (box (rSref09_Maker.cs t28.2) q0),v1 10 (fun v0 => box (rSapi_Kind.cs zz1) v0),v1 10 (fun v0 => box ([tv (.string (sB t23)),ti t19,ti (IntKind.i64.wrap (t19 + t28.1)),tvs nilV]) v0)] hst (fun _ => .o (op_buildSl (R := rS) (us := [([112,101,114,115,111,110] : Str),([111,114,100,101,114] : Str),([105,116,101,109] : Str)]) ud38 tok9 (.cons .k <| .cons .k <| .cons .k <| .nil _) rfl (leb rfl)) <| .q 3 rfl <| .o (op_index ud38 tok9 z1 z0 ht23) <| .o (op_load tok9 z0) <| .q 4 rfl <| .q 5 rfl <| .q 10 rfl <| .e [] [2] [3] rfl rfl rfl rfl (op_callF call51 (ref09_Maker_Take_ok ht28) (.cons (.of z0) <| .cons (.of .k) <| .nil)) <| .o (op_add z2 z0) <| .p (T := tagg ([tv (.string (sB t23)),ti t19,ti (IntKind.i64.wrap (t19 + t28.1)),tvs nilV])) rfl (op_build Tryz.underlying47 pl47 zv47 (zagg47_3).1 (.cons (R := rS) (u := t23) rfl z5 (leb rfl) <| .cons (R := rI) (u := t19) rfl z4 (leb rfl) <| .cons (R := rI) (u := (IntKind.i64.wrap (t19 + t28.1))) rfl z0 (leb rfl) <| .nil _)) <| .m [] [4] rfl rfl rfl (op_alloc (R := rSapi_Kind) (a := zz1) tok47 zok47) <| .e [] [4] [5] rfl rfl rfl rfl (op_storeB (R := (rAgg ([tv (.string (sB t23)),ti t19,ti (IntKind.i64.wrap (t19 + t28.1)),tvs nilV]) (one_cons (one_tv rfl) (one_cons (one_tv rfl) (one_cons (one_tv rfl) (one_cons one_tvs one_nil)))))) (a := ()) (tokA tok47 (one_cons (one_tv rfl) (one_cons (one_tv rfl) (one_cons (one_tv rfl) (one_cons one_tvs one_nil)))) rfl rfl) z0 z1 (leb rfl)) <| .n) fun n3 a w hst => ?_
 replace hst : St _ _ _ [_,_,_,_,_,_] [_,_,_,_,_] _ _ := (hst.pick [10,12,13,14,15,16]).nil (rSapi_Field) 44
 refine wp_seq_k (fun K10 hK10 => ?_)
 obtain ⟨t35,ht35,h⟩ := bind_some h
 obtain ⟨t36,ht36,h⟩ := bind_some h
 obtain ⟨u40,hu40,h⟩ := bind_some h
 refine wr mixed [v0 (box (rSref09_Maker.cs t35.2) q0),v1 9 (fun v0 => own rSapi_Field 44 (([] : List Sapi_Field) ++ [(Sapi_Field.mk ([105,100] : Str) ([] : Str) ([] : Str) (0:Int) t36 (0:Int) ([] : (List Str)) ([] : (List Int)))]) v0),v1 9 (fun v0 => box ([tv (.string (sB t23)),ti t19,ti (IntKind.i64.wrap (t19 + t28.1)),tvs v0]) (n3 10))] hst (fun _ => .u [4] rfl rfl (op_fieldB fld47_3 z0) <| .u [4] rfl rfl (op_loadBVf (u := nilV) tokV45 z0 rfl) <| .o (op_buildSl (R := rI) (us := [(0:Int),(1:Int),(100:Int),(-3:Int)]) ud22 tok3 (.cons .k <| .cons .k <| .cons .k <| .cons .k <| .nil _) rfl (leb rfl)) <| .q 7 rfl <| .e [] [3] [5] rfl rfl rfl rfl (op_callF call51 (ref09_Maker_Take_ok ht35) (.cons (.of z0) <| .cons (.of .k) <| .nil)) <| .o (op_index ud22 tok3 z2 z0 ht36) <| .o (op_load tok3 z0) <| .p (T := rSapi_Field.ty (Sapi_Field.mk ([105,100] : Str) ([] : Str) ([] : Str) (0:Int) t36 (0:Int) ([] : (List Str)) ([] : (List Int)))) rfl (op_build ud44 pl44 zv44 zc44 (.cons (R := rS) (u := ([105,100] : Str)) rfl .k (leb rfl) <| .cons (R := rI) (u := (0:Int)) rfl .k (leb rfl) <| .cons (R := rI) (u := t36) rfl z0 (leb rfl) <| .nil _)) <| .o (op_buildSl (R := rSapi_Field) (us := [(Sapi_Field.mk ([105,100] : Str) ([] : Str) ([] : Str) (0:Int) t36 (0:Int) ([] : (List Str)) ([] : (List Int)))]) ud45 tok44 (.cons z0 <| .nil _) rfl (leb rfl)) <| .e [] [0] [6] rfl rfl rfl rfl (op_append (R := rSapi_Field) ud45 tok44 (leb rfl) z7 z0 hu40) <| .u [4] rfl rfl (op_fieldB fld47_3 z10) <| .e [6] [4] [7] rfl rfl rfl rfl (op_storeBVf (R := rSapi_Field) (e := 44) (Ts := ([tv (.string (sB t23)),ti t19,ti (IntKind.i64.wrap (t19 + t28.1)),tvs nilV])) (off := 3) tokV45 z0 z1 (leb rfl)) <| .n) fun n4 a w hst => ?_
 replace hst := hst.to [9,11,12,13,14,15,16] [_,_,_,_,_,_,_] [_,_,_,_,_] rfl rfl
 refine hK10 _ _ ?_
 try clear hK10 K10
 refine wp_seq_k (fun K11 hK11 => ?_)
 refine sr mixed [] hst (fun _ => .q 3 rfl <| .o (op_gtr z0 .k) <| .n) fun n5 a w hst => ?_
 replace hst := hst.to [1,2,3,4,5,6,7,8] [_,_,_,_,_,_,_,_] [_,_,_,_,_] rfl rfl
 obtain ⟨p13,hp13,h⟩ := bind_some h
 have hJp13 : ∀ (v42 : Value) a w,St M w0 184 [(7,tv (n3 10)),(5,ti (l_.length : Int)),(4,tv (n0 0)),(0,tv q0),(1,tv vh1)] [box (rSapi_Kind.cs zz1) (n0 0),box (rSref09_Maker.cs p13.1) q0,own rSapi_Field 44 p13.2.1 v42,box ([tv (.string (sB t23)),ti t19,ti (IntKind.i64.wrap (t19 + t28.1)),tvs v42]) (n3 10),own rSapi_Kind 47 p13.2.2 vh1] a w → K11 a w := by
  intro v42 a w hst
  refine hK11 _ _ ?_
  try clear hK11 K11
  refine wp_seq_k (fun K43 hK43 => ?_)
  obtain ⟨t140,ht140,h⟩ := bind_some h
  refine sr mixed [v0 (box (rSref09_Maker.cs (bif ((decide ((l_.length : Int) > (1:Int))) == true) then t140.2 else p13.1)) q0)] hst (fun _ => .q 1 rfl <| .o (op_gtr z0 .k) <| .q 0 rfl <| .g rfl rfl (.b 0 rfl) (fun _ => op_move z6) <| .ge (N := fun c _ => [box (rSref09_Maker.cs (bif c then t140.2 else p13.1)) q0]) [] [1] [5] rfl rfl rfl rfl rfl (.b 1 rfl) (fun hc => op_callF call51 (ref09_Maker_Take_ok (opt_t ht140 hc)) (.cons (.of (.cond z0 hc)) <| .cons (.of .k) <| .nil)) rfl <| .g rfl rfl (.b 2 rfl) (fun hc => op_eql (.cond z0 hc) .k) <| .o (op_and z3 (fun hp => (.cond z0 (beqT hp)))) <| .n) fun n18 a w hst => ?_
  replace hst := hst.to [6,7,9,10,11] [_,_,_,_,_] [_,_,_,_,_] rfl rfl
  obtain ⟨p45,hp45,h⟩ := bind_some h
  have hJp45 : ∀ (v47 : Value) a w,St M w0 184 [(7,tv (n3 10)),(4,tv (n0 0)),(0,tv q0),(1,tv vh1)] [box (rSapi_Kind.cs zz1) (n0 0),own rSapi_Kind 47 p13.2.2 vh1,box (rSref09_Maker.cs (bif ((decide ((l_.length : Int) > (1:Int))) == true) then t140.2 else p13.1)) q0,own rSapi_Field 44 p45 v47,box ([tv (.string (sB t23)),ti t19,ti (IntKind.i64.wrap (t19 + t28.1)),tvs v47]) (n3 10)] a w → K43 a w := by
   intro v47 a w hst
   refine hK43 _ _ ?_
   try clear hK43 K43
   obtain ⟨t154,ht154,h⟩ := bind_some h
   refine sr mixed [v0 (box (rSref09_Maker.cs t154.2) q0)] hst (fun _ => .q 2 rfl <| .e [] [2] [5] rfl rfl rfl rfl (op_callF call97 (ref09_Maker_plain_ok ht154) (.cons (.of z0) <| .nil)) <| .o (op_assign z0) <| .n) fun n20 a w hst => ?_
   replace hst := hst.to [2,3,4,5,6] [_,_,_,_,_] [_,_,_,_,_] rfl rfl
   refine wp_seq_k (fun K49 hK49 => ?_)
   obtain ⟨u158,hu158,h⟩ := bind_some h
   refine wr mixed [v1 3 (fun v0 => own rSapi_Field 44 (p45 ++ t154.1) v0),v1 3 (fun v0 => box ([tv (.string (sB t23)),ti t19,ti (IntKind.i64.wrap (t19 + t28.1)),tvs v0]) (n3 10))] hst (fun _ => .u [3] rfl rfl (op_fieldB fld47_3 z1) <| .u [3] rfl rfl (op_loadBVf (u := v47) tokV45 z0 rfl) <| .q 2 rfl <| .e [] [2] [5] rfl rfl rfl rfl (op_append (R := rSapi_Field) ud45 tok44 (leb rfl) z1 z0 hu158) <| .u [3] rfl rfl (op_fieldB fld47_3 z5) <| .e [5] [3] [6] rfl rfl rfl rfl (op_storeBVf (R := rSapi_Field) (e := 44) (Ts := ([tv (.string (sB t23)),ti t19,ti (IntKind.i64.wrap (t19 + t28.1)),tvs v47])) (off := 3) tokV45 z0 z1 (leb rfl)) <| .n) fun n21 a w hst => ?_
   replace hst := hst.to [3,6,7,8,9] [_,_,_,_,_] [_,_,_,_,_] rfl rfl
   refine hK49 _ _ ?_
   try clear hK49 K49
   refine wp_seq_k (fun K50 hK50 => ?_)
   obtain ⟨t161,ht161,h⟩ := bind_some h
   refine sr mixed [v0 (box (rSref09_Maker.cs t161.2) q0)] hst (fun _ => .q 3 rfl <| .e [] [2] [5] rfl rfl rfl rfl (op_callF call51 (ref09_Maker_Take_ok ht161) (.cons (.of z0) <| .cons (.of .k) <| .nil)) <| .o (op_eql z0 .k) <| .n) fun n22 a w hst => ?_
   replace hst := hst.to [2,3,4,5,6,7] [_,_,_,_,_,_] [_,_,_,_,_] rfl rfl
   obtain ⟨p52,hp52,h⟩ := bind_some h
   have hJp52 : ∀ (v60 : Value) a w,St M w0 184 [(7,tv (n3 10)),(4,tv (n0 0)),(0,tv q0),(1,tv vh1)] [box (rSapi_Kind.cs zz1) (n0 0),own rSapi_Kind 47 p13.2.2 vh1,box (rSref09_Maker.cs p52.1) q0,own rSapi_Field 44 p52.2 v60,box ([tv (.string (sB t23)),ti t19,ti (IntKind.i64.wrap (t19 + t28.1)),tvs v60]) (n3 10)] a w → K50 a w := by
    intro v60 a w hst
    refine hK50 _ _ ?_
    try clear hK50 K50
    refine wp_seq_k (fun K61 hK61 => ?_)
    replace hst : St _ _ _ [_,_,_,_] [_,_,_,_] _ _ := ((hst.pick [0,1,2,3]).selA [3,4,0,1,2] rfl).shareC 3 rfl
    refine wr mixed [v0 (box (rSapi_Kind.cs (Sapi_Kind.mk t23 t19 (IntKind.i64.wrap (t19 + t28.1)) p52.2)) (n0 0))] hst (fun _ => .u [0] rfl rfl (op_loadB (R := rSapi_Kind) (u := (Sapi_Kind.mk t23 t19 (IntKind.i64.wrap (t19 + t28.1)) p52.2)) tok47 z0 rfl) <| .e [] [1] [4] rfl rfl rfl rfl (op_storeB (R := rSapi_Kind) (a := (Sapi_Kind.mk t23 t19 (IntKind.i64.wrap (t19 + t28.1)) p52.2)) tok47 z2 z0 (leb rfl)) <| .n) fun n26 a w hst => ?_
    replace hst : St _ _ _ [_,_,_] [_,_,_] _ _ := (hst.pick [2,3,4]).selA [1,2,3] rfl
    refine hK61 _ _ ?_
    try clear hK61 K61
    refine wp_ret ?_
    obtain rfl := sj h
    exact ret_st undef [1,0] hpl hst rfl (.cell (R := rSapi_Kind) (u := (Sapi_Kind.mk t23 t19 (IntKind.i64.wrap (t19 + t28.1)) p52.2)) tok47 z0 2 rfl rfl .nil) rfl rfl rfl
   replace h := hp52
   clear hp52
   refine wt hst (fun b68 => ?_) (fun b68 => ?_)
   ·replace h := ite_t b68 h
    obtain ⟨t164,ht164,h⟩ := bind_some h
    refine sr mixed [v0 (box (rSref09_Maker.cs t164.2) q0)] hst (fun _ => .q 4 rfl <| .e [] [4] [5] rfl rfl rfl rfl (op_callF call97 (ref09_Maker_plain_ok ht164) (.cons (.of z0) <| .nil)) <| .o (op_assign z0) <| .n) fun n23 a w hst => ?_
    replace hst := hst.to [2,4,5,6,7,8] [_,_,_,_,_,_] [_,_,_,_,_] rfl rfl
    obtain ⟨t172,ht172,h⟩ := bind_some h
    obtain ⟨t175,ht175,h⟩ := bind_some h
    refine sr mixed [] hst (fun _ => .q 0 rfl <| .o (op_len ud45 z0) <| .o (op_gtr z0 .k) <| .q 0 rfl <| .gu [3] rfl rfl rfl (.b 0 rfl) (fun _ => op_fieldB fld47_3 z6) <| .gu [3] rfl rfl rfl (.b 1 rfl) (fun hc => op_loadBVf (u := (n21 3)) tokV45 (.cond z0 hc) rfl) <| .g rfl rfl (.b 2 rfl) (fun _ => op_move z6) <| .g rfl rfl (.b 3 rfl) (fun hc => op_index ud45 tok44 (.cond z0 hc) .k (opt_t ht172 hc)) <| .g rfl rfl (.b 4 rfl) (fun hc => op_field fld44_0 (.cond z0 hc)) <| .g rfl rfl (.b 5 rfl) (fun hc => op_loadT (R := rS) (u := (t172).Name) tok9 (.cond z0 hc) rfl) <| .gu [2] rfl rfl rfl (.b 6 rfl) (fun hc => op_callFU [own rSapi_Field 44 (p45 ++ t154.1) (n21 3)] call96 (ref09_has_ok (opt_t ht175 hc)) (.cons (.own (.cond z4 hc) (.head _)) <| .cons (.of (.cond z0 hc)) <| .nil) (fun _ => flat_tv) (fun _ => flatN0 (x := undef))) <| .g rfl rfl (.b 7 rfl) (fun hc => op_lss (.cond z0 hc) .k) <| .o (op_and z8 (fun hp => (.cond z0 (beqT hp)))) <| .n) fun n24 a w hst => ?_
    replace hst := hst.to [12,13,14,15,16,17,18] [_,_,_,_,_,_,_] [_,_,_,_,_] rfl rfl
    obtain ⟨p64,hp64,h⟩ := bind_some h
    have hJp64 : ∀ (v66 : Value) a w,St M w0 184 [(7,tv (n3 10)),(4,tv (n0 0)),(0,tv q0),(1,tv vh1)] [box (rSapi_Kind.cs zz1) (n0 0),own rSapi_Kind 47 p13.2.2 vh1,box (rSref09_Maker.cs t164.2) q0,own rSapi_Field 44 p64 v66,box ([tv (.string (sB t23)),ti t19,ti (IntKind.i64.wrap (t19 + t28.1)),tvs v66]) (n3 10)] a w → K50 a w := by
     intro v66 a w hst
     obtain rfl := sj h
     exact hJp52 v66 _ _ (hst.pick [0,1,2,3])
    replace h := hp64
    clear hp64
    refine wt hst (fun b67 => ?_) (fun b67 => ?_)
    ·replace h := ite_t b67 h
     obtain ⟨u181,hu181,h⟩ := bind_some h
     refine wr mixed [v1 3 (fun v0 => own rSapi_Field 44 ((p45 ++ t154.1) ++ t164.1) v0),v1 3 (fun v0 => box ([tv (.string (sB t23)),ti t19,ti (IntKind.i64.wrap (t19 + t28.1)),tvs v0]) (n3 10))] hst (fun _ => .u [3] rfl rfl (op_fieldB fld47_3 z3) <| .u [3] rfl rfl (op_loadBVf (u := (n21 3)) tokV45 z0 rfl) <| .q 3 rfl <| .e [] [2] [5] rfl rfl rfl rfl (op_append (R := rSapi_Field) ud45 tok44 (leb rfl) z1 z0 hu181) <| .u [3] rfl rfl (op_fieldB fld47_3 z7) <| .e [5] [3] [6] rfl rfl rfl rfl (op_storeBVf (R := rSapi_Field) (e := 44) (Ts := ([tv (.string (sB t23)),ti t19,ti (IntKind.i64.wrap (t19 + t28.1)),tvs (n21 3)])) (off := 3) tokV45 z0 z1 (leb rfl)) <| .n) fun n25 a w hst => ?_
     replace hst := hst.to [3,8,9,10,11] [_,_,_,_,_] [_,_,_,_,_] rfl rfl
     obtain rfl := sj h
     exact hJp64 (n25 3) _ _ (hst.pick [1,2,3,4])
    ·replace h := ite_f b67 h
     refine wp_skip ?_
     obtain rfl := sj h
     exact hJp64 (n21 3) _ _ ((hst.pick [3,4,5,6]).selA [0,1,4,2,3] rfl)
   ·replace h := ite_f b68 h
    refine wp_skip ?_
    obtain rfl := sj h
    exact hJp52 (n21 3) _ _ ((hst.pick [2,3,4,5]).selA [0,1,4,2,3] rfl)
  replace h := hp45
  clear hp45
  refine wt hst (fun b69 => ?_) (fun b69 => ?_)
  ·replace h := ite_t b69 h
   obtain ⟨t146,ht146,h⟩ := bind_some h
   obtain ⟨u151,hu151,h⟩ := bind_some h
   refine wr mixed [v1 8 (fun v0 => own rSapi_Field 44 (p13.2.1 ++ [(Sapi_Field.mk ([98,121] : Str) (t146).Name ([] : Str) (1:Int) (0:Int) (8:Int) ([] : (List Str)) ([] : (List Int)))]) v0),v1 8 (fun v0 => box ([tv (.string (sB t23)),ti t19,ti (IntKind.i64.wrap (t19 + t28.1)),tvs v0]) (n3 10))] hst (fun _ => .u [2] rfl rfl (op_fieldB fld47_3 z1) <| .u [2] rfl rfl (op_loadBVf (u := v42) tokV45 z0 rfl) <| .q 6 rfl <| .u [3] rfl rfl (op_indexOi ud30 tok47 z0 .k ht146) <| .u [3] rfl rfl (op_fieldO fld47_0 z0 (idx_ne ht146)) <| .u [3] rfl rfl (op_loadOf (R2 := rS) (f := (t146).Name) tok9 z0 ht146 rfl) <| .p (T := rSapi_Field.ty (Sapi_Field.mk ([98,121] : Str) (t146).Name ([] : Str) (1:Int) (0:Int) (8:Int) ([] : (List Str)) ([] : (List Int)))) rfl (op_build ud44 pl44 zv44 zc44 (.cons (R := rS) (u := ([98,121] : Str)) rfl .k (leb rfl) <| .cons (R := rI) (u := (1:Int)) rfl .k (leb rfl) <| .cons (R := rS) (u := (t146).Name) rfl z0 (leb rfl) <| .cons (R := rI) (u := (8:Int)) rfl .k (leb rfl) <| .nil _)) <| .o (op_buildSl (R := rSapi_Field) (us := [(Sapi_Field.mk ([98,121] : Str) (t146).Name ([] : Str) (1:Int) (0:Int) (8:Int) ([] : (List Str)) ([] : (List Int)))]) ud45 tok44 (.cons z0 <| .nil _) rfl (leb rfl)) <| .e [] [1] [5] rfl rfl rfl rfl (op_append (R := rSapi_Field) ud45 tok44 (leb rfl) z6 z0 hu151) <| .u [2] rfl rfl (op_fieldB fld47_3 z10) <| .e [5] [2] [6] rfl rfl rfl rfl (op_storeBVf (R := rSapi_Field) (e := 44) (Ts := ([tv (.string (sB t23)),ti t19,ti (IntKind.i64.wrap (t19 + t28.1)),tvs v42])) (off := 3) tokV45 z0 z1 (leb rfl)) <| .n) fun n19 a w hst => ?_
   replace hst := hst.to [2,8,11,12,13,14] [_,_,_,_,_,_] [_,_,_,_,_] rfl rfl
   obtain rfl := sj h
   exact hJp45 (n19 8) _ _ (hst.pick [2,3,4,5])
  ·replace h := ite_f b69 h
   refine wp_skip ?_
   obtain rfl := sj h
   exact hJp45 v42 _ _ ((hst.pick [1,2,3,4]).selA [0,3,4,1,2] rfl)
 replace h := hp13
 clear hp13
 refine wt hst (fun b97 => ?_) (fun b97 => ?_)
 ·replace h := ite_t b97 h
  obtain ⟨t46,ht46,h⟩ := bind_some h
  refine sr mixed [v0 (box (rSref09_Maker.cs t46.2) q0)] hst (fun _ => .q 6 rfl <| .q 5 rfl <| .e [] [2] [5] rfl rfl rfl rfl (op_callF call51 (ref09_Maker_Take_ok ht46) (.cons (.of z1) <| .cons (.of z0) <| .nil)) <| .o (op_assign z0) <| .n) fun n6 a w hst => ?_
  replace hst := hst.to [3,5,6,7,8,9,10,11] [_,_,_,_,_,_,_,_] [_,_,_,_,_] rfl rfl
  obtain ⟨t49,ht49,h⟩ := bind_some h
  obtain ⟨t54,ht54,h⟩ := bind_some h
  obtain ⟨t55,ht55,h⟩ := bind_some h
  refine sr mixed [v0 (box (rSref09_Maker.cs t54.2) q0),v1 11 (fun v0 => box (rSapi_Field.cs zz0) v0),v1 11 (fun v0 => box (rSapi_Field.cs (Sapi_Field.mk ([111,102] : Str) (t49).Name ([] : Str) (1:Int) (0:Int) t55 ([] : (List Str)) ([] : (List Int)))) v0)] hst (fun _ => .q 7 rfl <| .q 1 rfl <| .u [0] rfl rfl (op_indexOi ud30 tok47 z1 z0 ht49) <| .u [0] rfl rfl (op_fieldO fld47_0 z0 (idx_ne ht49)) <| .u [0] rfl rfl (op_loadOf (R2 := rS) (f := (t49).Name) tok9 z0 ht49 rfl) <| .o (op_buildSl (R := rI) (us := [(4:Int),(3:Int),(8:Int),(2:Int)]) ud22 tok3 (.cons .k <| .cons .k <| .cons .k <| .cons .k <| .nil _) rfl (leb rfl)) <| .q 12 rfl <| .e [] [4] [5] rfl rfl rfl rfl (op_callF call51 (ref09_Maker_Take_ok ht54) (.cons (.of z0) <| .cons (.of .k) <| .nil)) <| .o (op_index ud22 tok3 z2 z0 ht55) <| .o (op_load tok3 z0) <| .p (T := rSapi_Field.ty (Sapi_Field.mk ([111,102] : Str) (t49).Name ([] : Str) (1:Int) (0:Int) t55 ([] : (List Str)) ([] : (List Int)))) rfl (op_build ud44 pl44 zv44 zc44 (.cons (R := rS) (u := ([111,102] : Str)) rfl .k (leb rfl) <| .cons (R := rI) (u := (1:Int)) rfl .k (leb rfl) <| .cons (R := rS) (u := (t49).Name) rfl z5 (leb rfl) <| .cons (R := rI) (u := t55) rfl z0 (leb rfl) <| .nil _)) <| .m [] [6] rfl rfl rfl (op_alloc (R := rSapi_Field) (a := zz0) tok44 zok44) <| .e [] [6] [7] rfl rfl rfl rfl (op_storeB (R := rSapi_Field) (a := (Sapi_Field.mk ([111,102] : Str) (t49).Name ([] : Str) (1:Int) (0:Int) t55 ([] : (List Str)) ([] : (List Int)))) tok44 z0 z1 (leb rfl)) <| .n) fun n7 a w hst => ?_
  replace hst := hst.to [0,11,12,13,14,15,16,17,18,19] [_,_,_,_,_,_,_,_,_,_] [_,_,_,_,_,_] rfl rfl
  refine wp_seq_k (fun K73 hK73 => ?_)
  obtain ⟨t59,ht59,h⟩ := bind_some h
  refine sr mixed [v0 (box (rSref09_Maker.cs t59.2) q0)] hst (fun _ => .q 8 rfl <| .e [] [4] [6] rfl rfl rfl rfl (op_callF call51 (ref09_Maker_Take_ok ht59) (.cons (.of z0) <| .cons (.of .k) <| .nil)) <| .o (op_eql z0 .k) <| .n) fun n8 a w hst => ?_
  replace hst := hst.to [2,3,4,5,6,7,8,9,10,11,12] [_,_,_,_,_,_,_,_,_,_,_] [_,_,_,_,_,_] rfl rfl
  obtain ⟨p75,hp75,h⟩ := bind_some h
  have hJp75 : ∀ a w,St M w0 184 [(9,tv (n7 11)),(8,ti t46.1),(7,tv (n3 10)),(5,ti (l_.length : Int)),(4,tv (n0 0)),(0,tv q0),(1,tv vh1)] [own rSapi_Kind 47 l_ vh1,box (rSapi_Kind.cs zz1) (n0 0),own rSapi_Field 44 (([] : List Sapi_Field) ++ [(Sapi_Field.mk ([105,100] : Str) ([] : Str) ([] : Str) (0:Int) t36 (0:Int) ([] : (List Str)) ([] : (List Int)))]) (n4 9),box ([tv (.string (sB t23)),ti t19,ti (IntKind.i64.wrap (t19 + t28.1)),tvs (n4 9)]) (n3 10),box (rSref09_Maker.cs t59.2) q0,box (rSapi_Field.cs p75) (n7 11)] a w → K73 a w := by
   intro a w hst
   refine hK73 _ _ ?_
   try clear hK73 K73
   refine wp_seq_k (fun K77 hK77 => ?_)
   obtain ⟨u66,hu66,h⟩ := bind_some h
   refine wr mixed [v1 4 (fun v0 => own rSapi_Field 44 ((([] : List Sapi_Field) ++ [(Sapi_Field.mk ([105,100] : Str) ([] : Str) ([] : Str) (0:Int) t36 (0:Int) ([] : (List Str)) ([] : (List Int)))]) ++ [p75]) v0),v1 4 (fun v0 => box ([tv (.string (sB t23)),ti t19,ti (IntKind.i64.wrap (t19 + t28.1)),tvs v0]) (n3 10))] hst (fun _ => .u [3] rfl rfl (op_fieldB fld47_3 z2) <| .u [3] rfl rfl (op_loadBVf (u := (n4 9)) tokV45 z0 rfl) <| .u [5] rfl rfl (op_loadB (R := rSapi_Field) (u := p75) tok44 z2 rfl) <| .o (op_buildSl (R := rSapi_Field) (us := [p75]) ud45 tok44 (.cons z0 <| .nil _) rfl (leb rfl)) <| .e [] [2] [6] rfl rfl rfl rfl (op_append (R := rSapi_Field) ud45 tok44 (leb rfl) z2 z0 hu66) <| .u [3] rfl rfl (op_fieldB fld47_3 z7) <| .e [6] [3] [7] rfl rfl rfl rfl (op_storeBVf (R := rSapi_Field) (e := 44) (Ts := ([tv (.string (sB t23)),ti t19,ti (IntKind.i64.wrap (t19 + t28.1)),tvs (n4 9)])) (off := 3) tokV45 z0 z1 (leb rfl)) <| .n) fun n10 a w hst => ?_
   replace hst : St _ _ _ [_,_,_,_,_,_,_] [_,_,_,_,_] _ _ := (hst.pick [4,7,8,9,10,11,12]).selA [0,1,2,4,5] rfl
   refine hK77 _ _ ?_
   try clear hK77 K77
   obtain ⟨t70,ht70,h⟩ := bind_some h
   obtain ⟨t72,ht72,h⟩ := bind_some h
   refine sr mixed [] hst (fun _ => .q 6 rfl <| .q 2 rfl <| .u [0] rfl rfl (op_indexOi ud30 tok47 z1 z0 ht70) <| .u [0] rfl rfl (op_loadO tok47 z0 ht70) <| .o (op_callF call95 (ref09_Copied_ok ht72) (.cons (.of z0) <| .nil)) <| .o (op_assign z0) <| .n) fun n11 a w hst => ?_
   replace hst := hst.to [0,5,6,7,8,9,10,11,12] [_,_,_,_,_,_,_,_,_] [_,_,_,_,_] rfl rfl
   refine wp_seq_k (fun K79 hK79 => ?_)
   obtain ⟨t77,ht77,h⟩ := bind_some h
   refine sr mixed [v0 (box (rSref09_Maker.cs (bif ((decide (t72 ≥ (0:Int))) == true) then t77.2 else t59.2)) q0)] hst (fun _ => .q 1 rfl <| .o (op_geq z0 .k) <| .q 0 rfl <| .g rfl rfl (.b 0 rfl) (fun _ => op_move z10) <| .ge (N := fun c _ => [box (rSref09_Maker.cs (bif c then t77.2 else t59.2)) q0]) [] [2] [5] rfl rfl rfl rfl rfl (.b 1 rfl) (fun hc => op_callF call51 (ref09_Maker_Take_ok (opt_t ht77 hc)) (.cons (.of (.cond z0 hc)) <| .cons (.of .k) <| .nil)) rfl <| .g rfl rfl (.b 2 rfl) (fun hc => op_eql (.cond z0 hc) .k) <| .o (op_and z3 (fun hp => (.cond z0 (beqT hp)))) <| .n) fun n12 a w hst => ?_
   replace hst := hst.to [6,7,8,9,10,11,12,13,14,15] [_,_,_,_,_,_,_,_,_,_] [_,_,_,_,_] rfl rfl
   obtain ⟨p81,hp81,h⟩ := bind_some h
   have hJp81 : ∀ (v83 : Value) a w,St M w0 184 [(8,ti t46.1),(7,tv (n3 10)),(5,ti (l_.length : Int)),(4,tv (n0 0)),(0,tv q0),(1,tv vh1)] [own rSapi_Kind 47 l_ vh1,box (rSapi_Kind.cs zz1) (n0 0),box (rSref09_Maker.cs (bif ((decide (t72 ≥ (0:Int))) == true) then t77.2 else t59.2)) q0,own rSapi_Field 44 p81 v83,box ([tv (.string (sB t23)),ti t19,ti (IntKind.i64.wrap (t19 + t28.1)),tvs v83]) (n3 10)] a w → K79 a w := by
    intro v83 a w hst
    refine hK79 _ _ ?_
    try clear hK79 K79
    obtain ⟨t97,ht97,h⟩ := bind_some h
    obtain ⟨t100,ht100,h⟩ := bind_some h
    obtain ⟨t104,ht104,h⟩ := bind_some h
    refine sr mixed [v0 (box (rSref09_Maker.cs (bif ((decide (t100 < (0:Int))) == true) then t104.2 else (bif ((decide (t72 ≥ (0:Int))) == true) then t77.2 else t59.2))) q0)] hst (fun _ => .q 5 rfl <| .q 1 rfl <| .u [0] rfl rfl (op_indexOi ud30 tok47 z1 z0 ht97) <| .u [0] rfl rfl (op_fieldO fld47_3 z0 (idx_ne ht97)) <| .u [0] rfl rfl (op_loadOf (R2 := (rSl rSapi_Field)) (f := (t97).Fields) tok45 z0 ht97 rfl) <| .o (op_callF call96 (ref09_has_ok ht100) (.cons (.of z0) <| .cons (.of .k) <| .nil)) <| .o (op_lss z0 .k) <| .q 0 rfl <| .g rfl rfl (.b 0 rfl) (fun _ => op_move z12) <| .ge (N := fun c _ => [box (rSref09_Maker.cs (bif c then t104.2 else (bif ((decide (t72 ≥ (0:Int))) == true) then t77.2 else t59.2))) q0]) [] [2] [5] rfl rfl rfl rfl rfl (.b 1 rfl) (fun hc => op_callF call51 (ref09_Maker_Take_ok (opt_t ht104 hc)) (.cons (.of (.cond z0 hc)) <| .cons (.of .k) <| .nil)) rfl <| .g rfl rfl (.b 2 rfl) (fun hc => op_eql (.cond z0 hc) .k) <| .o (op_and z3 (fun hp => (.cond z0 (beqT hp)))) <| .n) fun n14 a w hst => ?_
    replace hst := hst.to [0,11,12,13,14,15,16,17] [_,_,_,_,_,_,_,_] [_,_,_,_,_] rfl rfl
    obtain ⟨p85,hp85,h⟩ := bind_some h
    have hJp85 : ∀ (v90 : Value) a w,St M w0 184 [(7,tv (n3 10)),(5,ti (l_.length : Int)),(4,tv (n0 0)),(0,tv q0),(1,tv vh1)] [box (rSapi_Kind.cs zz1) (n0 0),box (rSref09_Maker.cs p85.1) q0,own rSapi_Field 44 p85.2.1 v90,box ([tv (.string (sB t23)),ti t19,ti (IntKind.i64.wrap (t19 + t28.1)),tvs v90]) (n3 10),own rSapi_Kind 47 p85.2.2 vh1] a w → K11 a w := by
     intro v90 a w hst
     obtain rfl := sj h
     exact hJp13 v90 _ _ (hst.pick [0,1,2,3,4])
    replace h := hp85
    clear hp85
    refine wp_test 1 hst rfl (fun b94 => ?_) (fun b94 => ?_)
    ·replace h := ite_t b94 h
     obtain ⟨t108,ht108,h⟩ := bind_some h
     refine sr mixed [v0 (box (rSref09_Maker.cs t108.2) q0)] hst (fun _ => .q 6 rfl <| .e [] [4] [5] rfl rfl rfl rfl (op_callF call51 (ref09_Maker_Take_ok ht108) (.cons (.of z0) <| .cons (.of .k) <| .nil)) <| .o (op_assign z0) <| .n) fun n15 a w hst => ?_
     replace hst := hst.to [2,3,5,6,7,8,9,10] [_,_,_,_,_,_,_,_] [_,_,_,_,_] rfl rfl
     refine wp_seq_k (fun K92 hK92 => ?_)
     obtain ⟨t114,ht114,h⟩ := bind_some h
     obtain ⟨u118,hu118,h⟩ := bind_some h
     refine wr mixed [v0 (box (rSref09_Maker.cs t114.2) q0),v1 9 (fun v0 => own rSapi_Field 44 (p81 ++ [(Sapi_Field.mk ([112,97,114,116] : Str) ([116,111,116,97,108] : Str) ([111,102] : Str) (7:Int) t108.1 (IntKind.i64.wrap (t108.1 + t114.1)) ([] : (List Str)) ([] : (List Int)))]) v0),v1 9 (fun v0 => box ([tv (.string (sB t23)),ti t19,ti (IntKind.i64.wrap (t19 + t28.1)),tvs v0]) (n3 10))] hst (fun _ => .u [3] rfl rfl (op_fieldB fld47_3 z3) <| .u [3] rfl rfl (op_loadBVf (u := v83) tokV45 z0 rfl) <| .q 2 rfl <| .q 3 rfl <| .q 10 rfl <| .e [] [4] [5] rfl rfl rfl rfl (op_callF call51 (ref09_Maker_Take_ok ht114) (.cons (.of z0) <| .cons (.of .k) <| .nil)) <| .o (op_add z2 z0) <| .p (T := rSapi_Field.ty (Sapi_Field.mk ([112,97,114,116] : Str) ([116,111,116,97,108] : Str) ([111,102] : Str) (7:Int) t108.1 (IntKind.i64.wrap (t108.1 + t114.1)) ([] : (List Str)) ([] : (List Int)))) rfl (op_build ud44 pl44 zv44 zc44 (.cons (R := rS) (u := ([112,97,114,116] : Str)) rfl .k (leb rfl) <| .cons (R := rI) (u := (7:Int)) rfl .k (leb rfl) <| .cons (R := rS) (u := ([111,102] : Str)) rfl .k (leb rfl) <| .cons (R := rS) (u := ([116,111,116,97,108] : Str)) rfl .k (leb rfl) <| .cons (R := rI) (u := t108.1) rfl z4 (leb rfl) <| .cons (R := rI) (u := (IntKind.i64.wrap (t108.1 + t114.1))) rfl z0 (leb rfl) <| .nil _)) <| .o (op_buildSl (R := rSapi_Field) (us := [(Sapi_Field.mk ([112,97,114,116] : Str) ([116,111,116,97,108] : Str) ([111,102] : Str) (7:Int) t108.1 (IntKind.i64.wrap (t108.1 + t114.1)) ([] : (List Str)) ([] : (List Int)))]) ud45 tok44 (.cons z0 <| .nil _) rfl (leb rfl)) <| .e [] [2] [6] rfl rfl rfl rfl (op_append (R := rSapi_Field) ud45 tok44 (leb rfl) z7 z0 hu118) <| .u [3] rfl rfl (op_fieldB fld47_3 z13) <| .e [6] [3] [7] rfl rfl rfl rfl (op_storeBVf (R := rSapi_Field) (e := 44) (Ts := ([tv (.string (sB t23)),ti t19,ti (IntKind.i64.wrap (t19 + t28.1)),tvs v83])) (off := 3) tokV45 z0 z1 (leb rfl)) <| .n) fun n16 a w hst => ?_
     replace hst := hst.to [9,12,13,14,15,16,17,18] [_,_,_,_,_,_,_,_] [_,_,_,_,_] rfl rfl
     refine hK92 _ _ ?_
     try clear hK92 K92
     obtain ⟨t125,ht125,h⟩ := bind_some h
     obtain ⟨u128,hu128,h⟩ := bind_some h
     obtain ⟨u133,hu133,h⟩ := bind_some h
     obtain ⟨t134,ht134,h⟩ := bind_some h
     obtain ⟨t134s,ht134s,h⟩ := bind_some h
     refine wr mixed [v1 2 (fun v0 => own rSapi_Field 44 ([] : List Sapi_Field) v0),v1 8 (fun v0 => own rSapi_Field 44 (([] : List Sapi_Field) ++ (t125).Fields) v0),v0 (own rSapi_Kind 47 t134s vh1)] hst (fun _ => .q 7 rfl <| .q 3 rfl <| .m [] [5] rfl rfl rfl (op_buildSlO (R := rSapi_Field) (us := ([] : List Sapi_Field)) ud45 tok44 (.nil _) rfl (leb rfl) (leb rfl)) <| .q 10 rfl <| .q 6 rfl <| .u [0] rfl rfl (op_indexOi ud30 tok47 z1 z0 ht125) <| .u [0] rfl rfl (op_fieldO fld47_3 z0 (idx_ne ht125)) <| .u [0] rfl rfl (op_loadOf (R2 := (rSl rSapi_Field)) (f := (t125).Fields) tok45 z0 ht125 rfl) <| .e [] [5] [6] rfl rfl rfl rfl (op_append (R := rSapi_Field) ud45 tok44 (leb rfl) z5 z0 hu128) <| .u [4] rfl rfl (op_fieldB fld47_0 z12) <| .u [4] rfl rfl (op_loadBf (R := rS) (u := t23) tok9 z0 rfl) <| .p (T := rSapi_Field.ty (Sapi_Field.mk ([116,111,116,97,108] : Str) t23 ([] : Str) (6:Int) (0:Int) (0:Int) ([] : (List Str)) ([] : (List Int)))) rfl (op_build ud44 pl44 zv44 zc44 (.cons (R := rS) (u := ([116,111,116,97,108] : Str)) rfl .k (leb rfl) <| .cons (R := rI) (u := (6:Int)) rfl .k (leb rfl) <| .cons (R := rS) (u := t23) rfl z0 (leb rfl) <| .nil _)) <| .o (op_buildSl (R := rSapi_Field) (us := [(Sapi_Field.mk ([116,111,116,97,108] : Str) t23 ([] : Str) (6:Int) (0:Int) (0:Int) ([] : (List Str)) ([] : (List Int)))]) ud45 tok44 (.cons z0 <| .nil _) rfl (leb rfl)) <| .e [] [6] [] rfl rfl rfl rfl (.roE (op_append (R := rSapi_Field) ud45 tok44 (leb rfl) z4 z0 hu133)) <| .u [0] rfl rfl (op_indexOi ud30 tok47 z13 z12 ht134) <| .u [0] rfl rfl (op_fieldO fld47_3 z0 (idx_ne ht134)) <| .e [] [0] [7] rfl rfl rfl rfl (op_storeOf (u := { t134 with Fields := ((([] : List Sapi_Field) ++ (t125).Fields) ++ [(Sapi_Field.mk ([116,111,116,97,108] : Str) t23 ([] : Str) (6:Int) (0:Int) (0:Int) ([] : (List Str)) ([] : (List Int)))]) }) tok45 z0 z2 ht134 ht134s (leb rfl) rfl) <| .n) fun n17 a w hst => ?_
     replace hst := hst.to [0,3,16,17,19,20,21,22,23] [_,_,_,_,_,_,_,_,_] [_,_,_,_,_] rfl rfl
     obtain rfl := sj h
     exact hJp85 (n16 9) _ _ (hst.pick [4,5,6,7,8])
    ·replace h := ite_f b94 h
     refine wp_skip ?_
     obtain rfl := sj h
     exact hJp85 v83 _ _ ((hst.pick [3,4,5,6,7]).selA [1,4,2,3,0] rfl)
   replace h := hp81
   clear hp81
   refine wt hst (fun b95 => ?_) (fun b95 => ?_)
   ·replace h := ite_t b95 h
    obtain ⟨t84,ht84,h⟩ := bind_some h
    obtain ⟨t88,ht88,h⟩ := bind_some h
    obtain ⟨u93,hu93,h⟩ := bind_some h
    refine wr mixed [v1 13 (fun v0 => own rSapi_Field 44 (((([] : List Sapi_Field) ++ [(Sapi_Field.mk ([105,100] : Str) ([] : Str) ([] : Str) (0:Int) t36 (0:Int) ([] : (List Str)) ([] : (List Int)))]) ++ [p75]) ++ [(Sapi_Field.mk ([115,97,109,101] : Str) (t88).Name ([111,102] : Str) (8:Int) (0:Int) (0:Int) ([] : (List Str)) ([] : (List Int)))]) v0),v1 13 (fun v0 => box ([tv (.string (sB t23)),ti t19,ti (IntKind.i64.wrap (t19 + t28.1)),tvs v0]) (n3 10))] hst (fun _ => .u [3] rfl rfl (op_fieldB fld47_3 z5) <| .u [3] rfl rfl (op_loadBVf (u := (n10 4)) tokV45 z0 rfl) <| .q 11 rfl <| .q 7 rfl <| .u [0] rfl rfl (op_indexOi ud30 tok47 z1 z0 ht84) <| .u [0] rfl rfl (op_fieldO fld47_3 z0 (idx_ne ht84)) <| .u [0] rfl rfl (op_loadOf (R2 := (rSl rSapi_Field)) (f := (t84).Fields) tok45 z0 ht84 rfl) <| .q 9 rfl <| .o (op_index ud45 tok44 z1 z0 ht88) <| .o (op_field fld44_0 z0) <| .o (op_loadT (R := rS) (u := (t88).Name) tok9 z0 rfl) <| .p (T := rSapi_Field.ty (Sapi_Field.mk ([115,97,109,101] : Str) (t88).Name ([111,102] : Str) (8:Int) (0:Int) (0:Int) ([] : (List Str)) ([] : (List Int)))) rfl (op_build ud44 pl44 zv44 zc44 (.cons (R := rS) (u := ([115,97,109,101] : Str)) rfl .k (leb rfl) <| .cons (R := rI) (u := (8:Int)) rfl .k (leb rfl) <| .cons (R := rS) (u := ([111,102] : Str)) rfl .k (leb rfl) <| .cons (R := rS) (u := (t88).Name) rfl z0 (leb rfl) <| .nil _)) <| .o (op_buildSl (R := rSapi_Field) (us := [(Sapi_Field.mk ([115,97,109,101] : Str) (t88).Name ([111,102] : Str) (8:Int) (0:Int) (0:Int) ([] : (List Str)) ([] : (List Int)))]) ud45 tok44 (.cons z0 <| .nil _) rfl (leb rfl)) <| .e [] [2] [5] rfl rfl rfl rfl (op_append (R := rSapi_Field) ud45 tok44 (leb rfl) z11 z0 hu93) <| .u [3] rfl rfl (op_fieldB fld47_3 z19) <| .e [5] [3] [6] rfl rfl rfl rfl (op_storeBVf (R := rSapi_Field) (e := 44) (Ts := ([tv (.string (sB t23)),ti t19,ti (IntKind.i64.wrap (t19 + t28.1)),tvs (n10 4)])) (off := 3) tokV45 z0 z1 (leb rfl)) <| .n) fun n13 a w hst => ?_
    replace hst := hst.to [2,13,16,19,20,21,22,23,24] [_,_,_,_,_,_,_,_,_] [_,_,_,_,_] rfl rfl
    obtain rfl := sj h
    exact hJp81 (n13 13) _ _ (hst.pick [3,4,5,6,7,8])
   ·replace h := ite_f b95 h
    refine wp_skip ?_
    obtain rfl := sj h
    exact hJp81 (n10 4) _ _ ((hst.pick [4,5,6,7,8,9]).selA [0,1,4,2,3] rfl)
  replace h := hp75
  clear hp75
  refine wt hst (fun b96 => ?_) (fun b96 => ?_)
  ·replace h := ite_t b96 h
   refine wr mixed [v0 (box (rSapi_Field.cs (Sapi_Field.mk ([111,102] : Str) (t49).Name ([] : Str) (1:Int) (1:Int) t55 ([] : (List Str)) ([] : (List Int)))) (n7 11))] hst (fun _ => .u [4] rfl rfl (op_fieldB fld44_4 z2) <| .e [] [4] [6] rfl rfl rfl rfl (op_storeBf (R := rI) (a := (1:Int)) (Ts := (rSapi_Field.cs (Sapi_Field.mk ([111,102] : Str) (t49).Name ([] : Str) (1:Int) (0:Int) t55 ([] : (List Str)) ([] : (List Int))))) (off := 4) tok3 z0 .k (leb rfl)) <| .n) fun n9 a w hst => ?_
   replace hst := hst.to [2,3,4,5,6,7,8,9,10,11] [_,_,_,_,_,_,_,_,_,_] [_,_,_,_,_,_] rfl rfl
   obtain rfl := sj h
   exact hJp75 _ _ (hst.pick [1,2,4,6,7,8,9])
  ·replace h := ite_f b96 h
   refine wp_skip ?_
   obtain rfl := sj h
   exact hJp75 _ _ ((hst.pick [2,3,5,7,8,9,10]).selA [0,1,2,3,5,4] rfl)
 ·replace h := ite_f b97 h
  refine wp_skip ?_
  obtain rfl := sj h
  exact hJp13 (n4 9) _ _ ((hst.pick [2,4,5,6,7]).selA [1,2,3,4,0] rfl)

/- (*diorama/dioramaref09.Maker).rule -/
noncomputable def fref09_Maker_rule (m_ : Sref09_Maker) (k_ : Sapi_Kind) : Option (Sapi_Rule × Bool × Sref09_Maker) := (fref09_has (k_).Fields ([108,111,119] : Str)).bind fun t11 => (fref09_has (k_).Fields ([115,105,122,101] : Str)).bind fun t14 => (opt ((decide (t11 ≥ (0:Int))) == true) (fref09_Maker_Take m_ (3:Int)) default).bind fun t19 => (if ((decide (t11 ≥ (0:Int))) && (decide (t19.1 > (0:Int)))) = true then (sub (k_).Name (0:Int) (1:Int)).bind fun t24 => (cat (([111,114,100,101,114] : Str).length + t24.length)).bind fun _ => (fref09_Maker_Take (bif ((decide (t11 ≥ (0:Int))) == true) then t19.2 else m_) (8:Int)).bind fun t29 => (some ((Sapi_Rule.mk (([111,114,100,101,114] : Str) ++ t24) (k_).Name ([108,111,119] : Str) ([104,105,103,104] : Str) (IntKind.i64.wrap (t29.1 - (2:Int)))),true,t29.2)) else (if (decide (t14 < (0:Int))) = true then (some (zz3,false,(bif ((decide (t11 ≥ (0:Int))) == true) then t19.2 else m_))) else (idx (k_).Fields t14).bind fun t38 => (fref09_Maker_Take (bif ((decide (t11 ≥ (0:Int))) == true) then t19.2 else m_) (2:Int)).bind fun t41 => (if (t41.1 == (0:Int)) = true then (sub (k_).Name (0:Int) (1:Int)).bind fun t45 => (cat (([109,111,115,116] : Str).length + t45.length)).bind fun _ => (fref09_Maker_Take t41.2 (12:Int)).bind fun t52 => (some ((Sapi_Rule.mk (([109,111,115,116] : Str) ++ t45) (k_).Name ([115,105,122,101] : Str) ([] : Str) (IntKind.i64.wrap ((t38).Lo + t52.1))),true,t52.2)) else (sub (k_).Name (0:Int) (1:Int)).bind fun t57 => (cat (([108,101,97,115,116] : Str).length + t57.length)).bind fun _ => (fref09_Maker_Take t41.2 (12:Int)).bind fun t62 => (some ((Sapi_Rule.mk (([108,101,97,115,116] : Str) ++ t57) (k_).Name ([] : Str) ([115,105,122,101] : Str) (IntKind.i64.wrap (t62.1 - (t38).Hi))),true,t62.2)))))
set_option maxRecDepth 100000 in
set_option maxHeartbeats 4000000 in
theorem ref09_Maker_rule_ok {q0 : Value} {m_ : Sref09_Maker} {k_ : Sapi_Kind} {r : Sapi_Rule × Bool × Sref09_Maker} (h : fref09_Maker_rule m_ k_ = some r) : FnOk Tryz.prog 53 [tv q0,rSapi_Kind.ty k_] [box (rSref09_Maker.cs m_) q0] (fun _ => [box (rSref09_Maker.cs r.2.2) q0]) (fun _ => ttup [rSapi_Rule.ty r.1,tb r.2.1]) := by
 unfold fref09_Maker_rule at h
 refine FnOk.enter Tryz.func53 rfl Tryz.ntmps53 (leb rfl) (fun M0 M w0 a hpl hst => ?_)
 replace hst : St M w0 67 [(0,tv q0),(1,rSapi_Kind.ty k_)] [box (rSref09_Maker.cs m_) q0] a w0 := hst
 refine sr mixed [v1 1 (fun v0 => box (rSapi_Rule.cs zz3) v0)] hst (fun _ => .o (op_boxR (R := rSapi_Kind) (u := k_) z1) <| .m [] [1] rfl rfl rfl (op_alloc (R := rSapi_Rule) (a := zz3) tok100 zok100) <| .o (op_assign .k) <| .n) fun n0 a w hst => ?_
 replace hst := hst.to [0,1,3] [_,_,_] [_,_] rfl rfl
 obtain ⟨t11,ht11,h⟩ := bind_some h
 refine sr mixed [] hst (fun _ => .o (op_field fld47_3 z0) <| .o (op_loadT (R := (rSl rSapi_Field)) (u := (k_).Fields) tok45 z0 rfl) <| .o (op_callF call96 (ref09_has_ok ht11) (.cons (.of z0) <| .cons (.of .k) <| .nil)) <| .o (op_assign z0) <| .n) fun n1 a w hst => ?_
 replace hst := hst.to [3,4,5,6] [_,_,_,_] [_,_] rfl rfl
 obtain ⟨t14,ht14,h⟩ := bind_some h
 refine sr mixed [] hst (fun _ => .o (op_field fld47_3 z1) <| .o (op_loadT (R := (rSl rSapi_Field)) (u := (k_).Fields) tok45 z0 rfl) <| .o (op_callF call96 (ref09_has_ok ht14) (.cons (.of z0) <| .cons (.of .k) <| .nil)) <| .o (op_assign z0) <| .n) fun n2 a w hst => ?_
 replace hst := hst.to [3,4,5,6,7] [_,_,_,_,_] [_,_] rfl rfl
 refine wp_seq_k (fun K6 hK6 => ?_)
 obtain ⟨t19,ht19,h⟩ := bind_some h
 refine sr mixed [v0 (box (rSref09_Maker.cs (bif ((decide (t11 ≥ (0:Int))) == true) then t19.2 else m_)) q0)] hst (fun _ => .q 1 rfl <| .o (op_geq z0 .k) <| .q 0 rfl <| .g rfl rfl (.b 0 rfl) (fun _ => op_move z7) <| .ge (N := fun c _ => [box (rSref09_Maker.cs (bif c then t19.2 else m_)) q0]) [] [0] [2] rfl rfl rfl rfl rfl (.b 1 rfl) (fun hc => op_callF call51 (ref09_Maker_Take_ok (opt_t ht19 hc)) (.cons (.of (.cond z0 hc)) <| .cons (.of .k) <| .nil)) rfl <| .g rfl rfl (.b 2 rfl) (fun hc => op_gtr (.cond z0 hc) .k) <| .o (op_and z3 (fun hp => (.cond z0 (beqT hp)))) <| .n) fun n3 a w hst => ?_
 replace hst := hst.to [6,7,9,10,11] [_,_,_,_,_] [_,_] rfl rfl
 refine wt hst (fun b20 => ?_) (fun b20 => ?_)
 ·replace h := ite_t b20 h
  refine wp_seq_k (fun K8 hK8 => ?_)
  obtain ⟨t24,ht24,h⟩ := bind_some h
  obtain ⟨u25,hu25,h⟩ := bind_some h
  obtain ⟨t29,ht29,h⟩ := bind_some h
  refine wr mixed [v0 (box (rSref09_Maker.cs t29.2) q0),v0 (box (rSapi_Rule.cs (Sapi_Rule.mk (([111,114,100,101,114] : Str) ++ t24) (k_).Name ([108,111,119] : Str) ([104,105,103,104] : Str) (IntKind.i64.wrap (t29.1 - (2:Int))))) (n0 1))] hst (fun _ => .o (op_field fld47_0 z2) <| .o (op_loadT (R := rS) (u := (k_).Name) tok9 z0 rfl) <| .o (op_subS ud9 z0 (.no _) (.op .k) ht24) <| .o (op_addS .k z0 hu25) <| .o (op_field fld47_0 z6) <| .o (op_loadT (R := rS) (u := (k_).Name) tok9 z0 rfl) <| .q 10 rfl <| .e [] [1] [2] rfl rfl rfl rfl (op_callF call51 (ref09_Maker_Take_ok ht29) (.cons (.of z0) <| .cons (.of .k) <| .nil)) <| .o (op_sub z0 .k) <| .p (T := rSapi_Rule.ty (Sapi_Rule.mk (([111,114,100,101,114] : Str) ++ t24) (k_).Name ([108,111,119] : Str) ([104,105,103,104] : Str) (IntKind.i64.wrap (t29.1 - (2:Int))))) rfl (op_build ud100 pl100 zv100 zc100 (.cons (R := rS) (u := (([111,114,100,101,114] : Str) ++ t24)) rfl z5 (leb rfl) <| .cons (R := rS) (u := (k_).Name) rfl z3 (leb rfl) <| .cons (R := rS) (u := ([108,111,119] : Str)) rfl .k (leb rfl) <| .cons (R := rS) (u := ([104,105,103,104] : Str)) rfl .k (leb rfl) <| .cons (R := rI) (u := (IntKind.i64.wrap (t29.1 - (2:Int)))) rfl z0 (leb rfl) <| .nil _)) <| .e [] [0] [3] rfl rfl rfl rfl (op_storeB (R := rSapi_Rule) (a := (Sapi_Rule.mk (([111,114,100,101,114] : Str) ++ t24) (k_).Name ([108,111,119] : Str) ([104,105,103,104] : Str) (IntKind.i64.wrap (t29.1 - (2:Int))))) tok100 z13 z0 (leb rfl)) <| .o (op_assign .k) <| .n) fun n4 a w hst => ?_
  replace hst := hst.to [10,14,15] [_,_,_] [_,_] rfl rfl
  refine hK8 _ _ ?_
  try clear hK8 K8
  refine wp_ret ?_
  obtain rfl := sj h
  exact ret_st undef [0] hpl hst rfl (.cell (R := rSapi_Rule) (u := (Sapi_Rule.mk (([111,114,100,101,114] : Str) ++ t24) (k_).Name ([108,111,119] : Str) ([104,105,103,104] : Str) (IntKind.i64.wrap (t29.1 - (2:Int))))) tok100 z1 1 rfl rfl (.tmp z0 .nil)) rfl rfl rfl
 ·replace h := ite_f b20 h
  refine wp_skip ?_
  refine hK6 _ _ ?_
  try clear hK6 K6
  refine wp_seq_k (fun K9 hK9 => ?_)
  refine sr mixed [] hst (fun _ => .q 1 rfl <| .o (op_lss z0 .k) <| .n) fun n5 a w hst => ?_
  replace hst := hst.to [1,3,4,5,6] [_,_,_,_,_] [_,_] rfl rfl
  refine wt hst (fun b19 => ?_) (fun b19 => ?_)
  ·replace h := ite_t b19 h
   refine sr mixed [v0 (box (rSapi_Rule.cs zz3) (n0 1))] hst (fun _ => .p (T := rSapi_Rule.ty zz3) rfl (op_build ud100 pl100 zv100 zc100 (.nil _)) <| .e [] [0] [2] rfl rfl rfl rfl (op_storeB (R := rSapi_Rule) (a := zz3) tok100 z4 z0 (leb rfl)) <| .o (op_assign .k) <| .n) fun n6 a w hst => ?_
   replace hst := hst.to [1,5,6] [_,_,_] [_,_] rfl rfl
   refine wp_ret ?_
   obtain rfl := sj h
   exact ret_st undef [0] hpl hst rfl (.cell (R := rSapi_Rule) (u := zz3) tok100 z1 1 rfl rfl (.tmp z0 .nil)) rfl rfl rfl
  ·replace h := ite_f b19 h
   refine wp_skip ?_
   refine hK9 _ _ ?_
   try clear hK9 K9
   obtain ⟨t38,ht38,h⟩ := bind_some h
   refine sr mixed [v1 5 (fun v0 => box (rSapi_Field.cs zz0) v0),v1 5 (fun v0 => box (rSapi_Field.cs t38) v0)] hst (fun _ => .o (op_field fld47_3 z2) <| .o (op_loadT (R := (rSl rSapi_Field)) (u := (k_).Fields) tok45 z0 rfl) <| .q 3 rfl <| .o (op_index ud45 tok44 z1 z0 ht38) <| .o (op_load tok44 z0) <| .m [] [2] rfl rfl rfl (op_alloc (R := rSapi_Field) (a := zz0) tok44 zok44) <| .e [] [2] [3] rfl rfl rfl rfl (op_storeB (R := rSapi_Field) (a := t38) tok44 z0 z1 (leb rfl)) <| .n) fun n7 a w hst => ?_
   replace hst : St _ _ _ [_,_,_,_] [_,_] _ _ := ((((hst.pick [5,8,9,10]).selA [2,0,1] rfl).shareB 0 rfl).add 0 rfl (fun _ _ _ h => h.2)).pick [0,3,4,5]
   refine wp_seq_k (fun K14 hK14 => ?_)
   obtain ⟨t41,ht41,h⟩ := bind_some h
   refine sr mixed [v0 (box (rSref09_Maker.cs t41.2) q0)] hst (fun _ => .q 3 rfl <| .e [] [1] [2] rfl rfl rfl rfl (op_callF call51 (ref09_Maker_Take_ok ht41) (.cons (.of z0) <| .cons (.of .k) <| .nil)) <| .o (op_eql z0 .k) <| .n) fun n8 a w hst => ?_
   replace hst := hst.to [2,3,4,5,6] [_,_,_,_,_] [_,_] rfl rfl
   refine wt hst (fun b18 => ?_) (fun b18 => ?_)
   ·replace h := ite_t b18 h
    refine wp_seq_k (fun K16 hK16 => ?_)
    obtain ⟨t45,ht45,h⟩ := bind_some h
    obtain ⟨u46,hu46,h⟩ := bind_some h
    obtain ⟨t52,ht52,h⟩ := bind_some h
    refine wr mixed [v0 (box (rSref09_Maker.cs t52.2) q0),v0 (box (rSapi_Rule.cs (Sapi_Rule.mk (([109,111,115,116] : Str) ++ t45) (k_).Name ([115,105,122,101] : Str) ([] : Str) (IntKind.i64.wrap ((t38).Lo + t52.1)))) (n0 1))] hst (fun _ => .o (op_field fld47_0 z2) <| .o (op_loadT (R := rS) (u := (k_).Name) tok9 z0 rfl) <| .o (op_subS ud9 z0 (.no _) (.op .k) ht45) <| .o (op_addS .k z0 hu46) <| .o (op_field fld47_0 z6) <| .o (op_loadT (R := rS) (u := (k_).Name) tok9 z0 rfl) <| .o (op_field fld44_4 z7) <| .o (op_loadT (R := rI) (u := (t38).Lo) tok3 z0 rfl) <| .q 12 rfl <| .e [] [1] [2] rfl rfl rfl rfl (op_callF call51 (ref09_Maker_Take_ok ht52) (.cons (.of z0) <| .cons (.of .k) <| .nil)) <| .o (op_add z2 z0) <| .p (T := rSapi_Rule.ty (Sapi_Rule.mk (([109,111,115,116] : Str) ++ t45) (k_).Name ([115,105,122,101] : Str) ([] : Str) (IntKind.i64.wrap ((t38).Lo + t52.1)))) rfl (op_build ud100 pl100 zv100 zc100 (.cons (R := rS) (u := (([109,111,115,116] : Str) ++ t45)) rfl z7 (leb rfl) <| .cons (R := rS) (u := (k_).Name) rfl z5 (leb rfl) <| .cons (R := rS) (u := ([115,105,122,101] : Str)) rfl .k (leb rfl) <| .cons (R := rI) (u := (IntKind.i64.wrap ((t38).Lo + t52.1))) rfl z0 (leb rfl) <| .nil _)) <| .e [] [0] [3] rfl rfl rfl rfl (op_storeB (R := rSapi_Rule) (a := (Sapi_Rule.mk (([109,111,115,116] : Str) ++ t45) (k_).Name ([115,105,122,101] : Str) ([] : Str) (IntKind.i64.wrap ((t38).Lo + t52.1)))) tok100 z15 z0 (leb rfl)) <| .o (op_assign .k) <| .n) fun n9 a w hst => ?_
    replace hst := hst.to [12,16,17] [_,_,_] [_,_] rfl rfl
    refine hK16 _ _ ?_
    try clear hK16 K16
    refine wp_ret ?_
    obtain rfl := sj h
    exact ret_st undef [0] hpl hst rfl (.cell (R := rSapi_Rule) (u := (Sapi_Rule.mk (([109,111,115,116] : Str) ++ t45) (k_).Name ([115,105,122,101] : Str) ([] : Str) (IntKind.i64.wrap ((t38).Lo + t52.1)))) tok100 z1 1 rfl rfl (.tmp z0 .nil)) rfl rfl rfl
   ·replace h := ite_f b18 h
    refine wp_skip ?_
    refine hK14 _ _ ?_
    try clear hK14 K14
    refine wp_seq_k (fun K17 hK17 => ?_)
    obtain ⟨t57,ht57,h⟩ := bind_some h
    obtain ⟨u58,hu58,h⟩ := bind_some h
    obtain ⟨t62,ht62,h⟩ := bind_some h
    refine wr mixed [v0 (box (rSref09_Maker.cs t62.2) q0),v0 (box (rSapi_Rule.cs (Sapi_Rule.mk (([108,101,97,115,116] : Str) ++ t57) (k_).Name ([] : Str) ([115,105,122,101] : Str) (IntKind.i64.wrap (t62.1 - (t38).Hi)))) (n0 1))] hst (fun _ => .o (op_field fld47_0 z2) <| .o (op_loadT (R := rS) (u := (k_).Name) tok9 z0 rfl) <| .o (op_subS ud9 z0 (.no _) (.op .k) ht57) <| .o (op_addS .k z0 hu58) <| .o (op_field fld47_0 z6) <| .o (op_loadT (R := rS) (u := (k_).Name) tok9 z0 rfl) <| .q 10 rfl <| .e [] [1] [2] rfl rfl rfl rfl (op_callF call51 (ref09_Maker_Take_ok ht62) (.cons (.of z0) <| .cons (.of .k) <| .nil)) <| .o (op_field fld44_5 z9) <| .o (op_loadT (R := rI) (u := (t38).Hi) tok3 z0 rfl) <| .o (op_sub z2 z0) <| .p (T := rSapi_Rule.ty (Sapi_Rule.mk (([108,101,97,115,116] : Str) ++ t57) (k_).Name ([] : Str) ([115,105,122,101] : Str) (IntKind.i64.wrap (t62.1 - (t38).Hi)))) rfl (op_build ud100 pl100 zv100 zc100 (.cons (R := rS) (u := (([108,101,97,115,116] : Str) ++ t57)) rfl z7 (leb rfl) <| .cons (R := rS) (u := (k_).Name) rfl z5 (leb rfl) <| .cons (R := rS) (u := ([115,105,122,101] : Str)) rfl .k (leb rfl) <| .cons (R := rI) (u := (IntKind.i64.wrap (t62.1 - (t38).Hi))) rfl z0 (leb rfl) <| .nil _)) <| .e [] [0] [3] rfl rfl rfl rfl (op_storeB (R := rSapi_Rule) (a := (Sapi_Rule.mk (([108,101,97,115,116] : Str) ++ t57) (k_).Name ([] : Str) ([115,105,122,101] : Str) (IntKind.i64.wrap (t62.1 - (t38).Hi)))) tok100 z15 z0 (leb rfl)) <| .o (op_assign .k) <| .n) fun n10 a w hst => ?_
    replace hst := hst.to [12,16,17] [_,_,_] [_,_] rfl rfl
    refine hK17 _ _ ?_
    try clear hK17 K17
    refine wp_ret ?_
    obtain rfl := sj h
    exact ret_st undef [0] hpl hst rfl (.cell (R := rSapi_Rule) (u := (Sapi_Rule.mk (([108,101,97,115,116] : Str) ++ t57) (k_).Name ([] : Str) ([115,105,122,101] : Str) (IntKind.i64.wrap (t62.1 - (t38).Hi)))) tok100 z1 1 rfl rfl (.tmp z0 .nil)) rfl rfl rfl

end Go.Proofs.YthdfmpocknmleaaGreatDoor
