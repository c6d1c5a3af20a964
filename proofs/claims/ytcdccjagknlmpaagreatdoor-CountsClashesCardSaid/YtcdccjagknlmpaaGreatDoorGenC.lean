/- Go functions as Lean functions, and the proofs that they compute them, written by a program. No condition. -/
import Derived.Test.YtcdccjagknlmpaaGreatDoorGenB
namespace Go.Proofs.YtcdccjagknlmpaaGreatDoor
open Go.Sim

/- slices.Equal[[]int,int] -/
noncomputable def fslices_Equal_int (s1_ : (List Int)) (s2_ : (List Int)) : Option (Bool) := (if ((s1_.length : Int) != (s2_.length : Int)) = true then (some false) else (tailrec (fun (s7 : Int) => ((if (decide (s7 < (s1_.length : Int))) = true then (idx s1_ s7).bind fun t18 => (idx s2_ s7).bind fun t22 => (if (t18 != t22) = true then (some (.inr (.inr false))) else (some (.inl (IntKind.i64.wrap (s7 + (1:Int)))))) else (some (.inr (.inl ())))) : Option ((Int) ⊕ ((Unit) ⊕ (Bool))))) (0:Int)).bind fun (e8 : (Unit) ⊕ (Bool)) => (match e8 with | .inl _ => (some true) | .inr p26 => (some p26)))
set_option maxRecDepth 100000 in
set_option maxHeartbeats 4000000 in
theorem slices_Equal_int_ok {s1_ : (List Int)} {s2_ : (List Int)} {r : Bool} (h : fslices_Equal_int s1_ s2_ = some r) : FnOk Tryz.prog 175 [tsl rI s1_,tsl rI s2_] [] (fun _ => []) (fun _ => tb r) := by
 unfold fslices_Equal_int at h
 refine FnOk.enter Tryz.func175 rfl Tryz.ntmps175 (leb rfl) (fun M0 M w0 a hpl hst => ?_)
 replace hst : St M w0 26 [(0,tsl rI s1_),(1,tsl rI s2_)] [] a w0 := hst
 refine sr mixed [] hst (fun _ => .o (op_assign .k) <| .n) fun n0 a w hst => ?_
 replace hst := hst.to [1,2] [_,_] [] rfl rfl
 refine wp_seq_k (fun K2 hK2 => ?_)
 refine sr mixed [] hst (fun _ => .q 0 rfl <| .o (op_len ud22 z0) <| .q 3 rfl <| .o (op_len ud22 z0) <| .o (op_neq z2 z0) <| .n) fun n1 a w hst => ?_
 replace hst := hst.to [4,5,6] [_,_,_] [] rfl rfl
 refine wt hst (fun b37 => ?_) (fun b37 => ?_)
 ·replace h := ite_t b37 h
  refine sr mixed [] hst (fun _ => .o (op_assign .k) <| .n) fun n2 a w hst => ?_
  replace hst := hst.to [0] [_] [] rfl rfl
  refine wp_ret ?_
  obtain rfl := sj h
  exact ret_st undef [] hpl hst rfl (.tmp z0 .nil) rfl rfl rfl
 ·replace h := ite_f b37 h
  refine wp_skip ?_
  refine hK2 _ _ ?_
  try clear hK2 K2
  refine wp_seq_k (fun K5 hK5 => ?_)
  refine sr mixed [] hst (fun _ => .q 1 rfl <| .o (op_len ud22 z0) <| .o (op_move .k) <| .n) fun n3 a w hst => ?_
  replace hst := hst.to [1,2,4,5] [_,_,_,_] [] rfl rfl
  obtain ⟨e8,he8,h⟩ := bind_some h
  have hJp25 : ∀ (p25 : Unit) a w,(.inl p25) = e8 → St M w0 26 [] [] a w → K5 a w := by
   intro p25 a w he hst
   subst he
   simp only at h
   refine hK5 _ _ ?_
   try clear hK5 K5
   refine sr mixed [] hst (fun _ => .o (op_assign .k) <| .n) fun n9 a w hst => ?_
   replace hst := hst.to [0] [_] [] rfl rfl
   refine wp_ret ?_
   obtain rfl := sj h
   exact ret_st undef [] hpl hst rfl (.tmp z0 .nil) rfl rfl rfl
  have hJp26 : ∀ (p26 : Bool) a w,(.inr p26) = e8 → St M w0 26 [(4,tb p26)] [] a w → Ret Tryz.prog Tryz.f175 M0 [] w0 (fun _ => []) (fun _ => tb r) .ret a w := by
   intro p26 a w he hst
   subst he
   simp only at h
   obtain rfl := sj h
   exact ret_st undef [] hpl hst rfl (.tmp z0 .nil) rfl rfl rfl
  refine wp_block ?_
  refine wp_loopK _ (fun (s7 : Int) a w => St M w0 26 [(12,ti (s1_.length : Int)),(13,ti s7),(0,tsl rI s1_),(1,tsl rI s2_)] [] a w) _ _ he8 (hst.pick [0,1,2,3]) ?_
  clear h
  intro s7 o a w K28 hI h ho hK28
  have hst := hI
  clear hI
  refine sr mixed [] hst (fun _ => .o (op_lss z1 z0) <| .n) fun n4 a w hst => ?_
  replace hst := hst.to [0,1,2,3,4] [_,_,_,_,_] [] rfl rfl
  refine wp_seq_k (fun K30 hK30 => ?_)
  refine wt hst (fun b36 => ?_) (fun b36 => ?_)
  ·replace h := ite_t b36 h
   refine wp_skip ?_
   refine hK30 _ _ ?_
   try clear hK30 K30
   refine wp_seq_k (fun K31 hK31 => ?_)
   refine wp_block ?_
   refine sr mixed [] hst (fun _ => .q 2 rfl <| .o (op_assign z0) <| .n) fun n5 a w hst => ?_
   replace hst := hst.to [1,3,4,5,6] [_,_,_,_,_] [] rfl rfl
   obtain ⟨t18,ht18,h⟩ := bind_some h
   obtain ⟨t22,ht22,h⟩ := bind_some h
   refine sr mixed [] hst (fun _ => .q 3 rfl <| .q 1 rfl <| .o (op_index ud22 tok3 z1 z0 ht18) <| .o (op_load tok3 z0) <| .q 8 rfl <| .q 5 rfl <| .o (op_index ud22 tok3 z1 z0 ht22) <| .o (op_load tok3 z0) <| .o (op_neq z4 z0) <| .n) fun n6 a w hst => ?_
   replace hst := hst.to [8,10,11,12,13] [_,_,_,_,_] [] rfl rfl
   refine wt hst (fun b35 => ?_) (fun b35 => ?_)
   ·replace h := ite_t b35 h
    refine sr mixed [] hst (fun _ => .o (op_assign .k) <| .n) fun n7 a w hst => ?_
    replace hst := hst.to [0] [_] [] rfl rfl
    refine wp_ret ?_
    exact hJp26 _ _ _ (ho _ (sj h).symm) (hst.pick [0])
   ·replace h := ite_f b35 h
    refine wp_skip ?_
    refine hK31 _ _ ?_
    try clear hK31 K31
    refine wr mixed [] hst (fun _ => .o (op_add z2 .k) <| .q 0 rfl <| .n) fun n8 a w hst => ?_
    replace hst := hst.to [1,3,4,5] [_,_,_,_] [] rfl rfl
    exact hK28 _ _ _ (sj h).symm (hst.pick [1,0,2,3])
  ·replace h := ite_f b36 h
   refine wp_exit ?_
   exact hJp25 _ _ _ (ho _ (sj h).symm) (hst.pick [])

/- diorama/schema.sameField -/
noncomputable def fschema_sameField (a_ : Sapi_Field) (b_ : Sapi_Field) : Option (Bool) := (opt ((((((((a_).Name == (b_).Name) && ((a_).Of == (b_).Of)) && ((a_).Up == (b_).Up)) && ((a_).Kind == (b_).Kind)) && ((a_).Lo == (b_).Lo)) && ((a_).Hi == (b_).Hi)) == true) (fslices_Equal_string (a_).Words (b_).Words) default).bind fun t50 => (opt (((((((((a_).Name == (b_).Name) && ((a_).Of == (b_).Of)) && ((a_).Up == (b_).Up)) && ((a_).Kind == (b_).Kind)) && ((a_).Lo == (b_).Lo)) && ((a_).Hi == (b_).Hi)) && t50) == true) (fslices_Equal_int (a_).Weights (b_).Weights) default).bind fun t57 => (some (((((((((a_).Name == (b_).Name) && ((a_).Of == (b_).Of)) && ((a_).Up == (b_).Up)) && ((a_).Kind == (b_).Kind)) && ((a_).Lo == (b_).Lo)) && ((a_).Hi == (b_).Hi)) && t50) && t57))
set_option maxRecDepth 100000 in
set_option maxHeartbeats 4000000 in
theorem schema_sameField_ok {a_ : Sapi_Field} {b_ : Sapi_Field} {r : Bool} (h : fschema_sameField a_ b_ = some r) : FnOk Tryz.prog 156 [rSapi_Field.ty a_,rSapi_Field.ty b_] [] (fun _ => []) (fun _ => tb r) := by
 unfold fschema_sameField at h
 refine FnOk.enter Tryz.func156 rfl Tryz.ntmps156 (leb rfl) (fun M0 M w0 a hpl hst => ?_)
 replace hst : St M w0 59 [(0,rSapi_Field.ty a_),(1,rSapi_Field.ty b_)] [] a w0 := hst
 refine sr mixed [] hst (fun _ => .o (op_boxR (R := rSapi_Field) (u := a_) z0) <| .o (op_boxR (R := rSapi_Field) (u := b_) z2) <| .o (op_assign .k) <| .n) fun n0 a w hst => ?_
 replace hst := hst.to [0,1] [_,_] [] rfl rfl
 obtain ⟨t50,ht50,h⟩ := bind_some h
 obtain ⟨t57,ht57,h⟩ := bind_some h
 refine sr mixed [] hst (fun _ => .o (op_field fld61_0 z0) <| .o (op_loadT (R := rS) (u := (a_).Name) tok9 z0 rfl) <| .o (op_field fld61_0 z3) <| .o (op_loadT (R := rS) (u := (b_).Name) tok9 z0 rfl) <| .o (op_eqlS z2 z0) <| .q 0 rfl <| .g rfl rfl (.b 0 rfl) (fun _ => op_field fld61_1 z6) <| .g rfl rfl (.b 1 rfl) (fun hc => op_loadT (R := rS) (u := (a_).Of) tok9 (.cond z0 hc) rfl) <| .g rfl rfl (.b 2 rfl) (fun _ => op_field fld61_1 z9) <| .g rfl rfl (.b 3 rfl) (fun hc => op_loadT (R := rS) (u := (b_).Of) tok9 (.cond z0 hc) rfl) <| .g rfl rfl (.b 4 rfl) (fun hc => op_eqlS (.cond z2 hc) (.cond z0 hc)) <| .o (op_and z5 (fun hp => (.cond z0 (beqT hp)))) <| .q 0 rfl <| .g rfl rfl (.b 0 rfl) (fun _ => op_field fld61_2 z13) <| .g rfl rfl (.b 1 rfl) (fun hc => op_loadT (R := rS) (u := (a_).Up) tok9 (.cond z0 hc) rfl) <| .g rfl rfl (.b 2 rfl) (fun _ => op_field fld61_2 z16) <| .g rfl rfl (.b 3 rfl) (fun hc => op_loadT (R := rS) (u := (b_).Up) tok9 (.cond z0 hc) rfl) <| .g rfl rfl (.b 4 rfl) (fun hc => op_eqlS (.cond z2 hc) (.cond z0 hc)) <| .o (op_and z5 (fun hp => (.cond z0 (beqT hp)))) <| .q 0 rfl <| .g rfl rfl (.b 0 rfl) (fun _ => op_field fld61_3 z20) <| .g rfl rfl (.b 1 rfl) (fun hc => op_loadT (R := rI) (u := (a_).Kind) tok3 (.cond z0 hc) rfl) <| .g rfl rfl (.b 2 rfl) (fun _ => op_field fld61_3 z23) <| .g rfl rfl (.b 3 rfl) (fun hc => op_loadT (R := rI) (u := (b_).Kind) tok3 (.cond z0 hc) rfl) <| .g rfl rfl (.b 4 rfl) (fun hc => op_eql (.cond z2 hc) (.cond z0 hc)) <| .o (op_and z5 (fun hp => (.cond z0 (beqT hp)))) <| .q 0 rfl <| .g rfl rfl (.b 0 rfl) (fun _ => op_field fld61_4 z27) <| .g rfl rfl (.b 1 rfl) (fun hc => op_loadT (R := rI) (u := (a_).Lo) tok3 (.cond z0 hc) rfl) <| .g rfl rfl (.b 2 rfl) (fun _ => op_field fld61_4 z30) <| .g rfl rfl (.b 3 rfl) (fun hc => op_loadT (R := rI) (u := (b_).Lo) tok3 (.cond z0 hc) rfl) <| .g rfl rfl (.b 4 rfl) (fun hc => op_eql (.cond z2 hc) (.cond z0 hc)) <| .o (op_and z5 (fun hp => (.cond z0 (beqT hp)))) <| .q 0 rfl <| .g rfl rfl (.b 0 rfl) (fun _ => op_field fld61_5 (.t 34 rfl)) <| .g rfl rfl (.b 1 rfl) (fun hc => op_loadT (R := rI) (u := (a_).Hi) tok3 (.cond z0 hc) rfl) <| .g rfl rfl (.b 2 rfl) (fun _ => op_field fld61_5 (.t 37 rfl)) <| .g rfl rfl (.b 3 rfl) (fun hc => op_loadT (R := rI) (u := (b_).Hi) tok3 (.cond z0 hc) rfl) <| .g rfl rfl (.b 4 rfl) (fun hc => op_eql (.cond z2 hc) (.cond z0 hc)) <| .o (op_and z5 (fun hp => (.cond z0 (beqT hp)))) <| .q 0 rfl <| .g rfl rfl (.b 0 rfl) (fun _ => op_field fld61_6 (.t 41 rfl)) <| .g rfl rfl (.b 1 rfl) (fun hc => op_loadT (R := (rSl rS)) (u := (a_).Words) tok32 (.cond z0 hc) rfl) <| .g rfl rfl (.b 2 rfl) (fun _ => op_field fld61_6 (.t 44 rfl)) <| .g rfl rfl (.b 3 rfl) (fun hc => op_loadT (R := (rSl rS)) (u := (b_).Words) tok32 (.cond z0 hc) rfl) <| .g rfl rfl (.b 4 rfl) (fun hc => op_callF call174 (slices_Equal_string_ok (opt_t ht50 hc)) (.cons (.of (.cond z2 hc)) <| .cons (.of (.cond z0 hc)) <| .nil)) <| .o (op_and z5 (fun hp => (.cond z0 (beqT hp)))) <| .q 0 rfl <| .g rfl rfl (.b 0 rfl) (fun _ => op_field fld61_7 (.t 48 rfl)) <| .g rfl rfl (.b 1 rfl) (fun hc => op_loadT (R := (rSl rI)) (u := (a_).Weights) tok22 (.cond z0 hc) rfl) <| .g rfl rfl (.b 2 rfl) (fun _ => op_field fld61_7 (.t 51 rfl)) <| .g rfl rfl (.b 3 rfl) (fun hc => op_loadT (R := (rSl rI)) (u := (b_).Weights) tok22 (.cond z0 hc) rfl) <| .g rfl rfl (.b 4 rfl) (fun hc => op_callF call175 (slices_Equal_int_ok (opt_t ht57 hc)) (.cons (.of (.cond z2 hc)) <| .cons (.of (.cond z0 hc)) <| .nil)) <| .o (op_and z5 (fun hp => (.cond z0 (beqT hp)))) <| .o (op_assign z0) <| .n) fun n1 a w hst => ?_
 replace hst := hst.to [54] [_] [] rfl rfl
 refine wp_ret ?_
 obtain rfl := sj h
 exact ret_st undef [] hpl hst rfl (.tmp z0 .nil) rfl rfl rfl

/- diorama/schema.all[string]$1 -/
noncomputable def fschema_all_stringq1 (x_ : Str) (c0_ : (Str → Option Bool)) : Option (Bool) := (c0_ x_).bind fun t6 => (some (!t6))
set_option maxRecDepth 100000 in
set_option maxHeartbeats 4000000 in
theorem schema_all_stringq1_ok {x_ : Str} {c0_ : (Str → Option Bool)} {r : Bool} (h : fschema_all_stringq1 x_ c0_ = some r) : FnOk Tryz.prog 160 [tv (.string (sB x_)),tptr (rF178.cs c0_)] [] (fun _ => []) (fun _ => tb r) := by
 unfold fschema_all_stringq1 at h
 refine FnOk.enter Tryz.func160 rfl Tryz.ntmps160 (leb rfl) (fun M0 M w0 a hpl hst => ?_)
 replace hst : St M w0 8 [(0,tv (.string (sB x_))),(1,tptr (rF178.cs c0_))] [] a w0 := hst
 refine sr mixed [] hst (fun _ => .o (op_assign .k) <| .n) fun n0 a w hst => ?_
 replace hst := hst.to [1,2] [_,_] [] rfl rfl
 obtain ⟨t6,ht6,h⟩ := bind_some h
 refine sr mixed [] hst (fun _ => .o (op_load tok178 z1) <| .q 1 rfl <| .o (op_callT (u := x_) z1 (.cons (.of z0) <| .nil) ht6) <| .o (op_not z0) <| .o (op_assign z0) <| .n) fun n1 a w hst => ?_
 replace hst := hst.to [4] [_] [] rfl rfl
 refine wp_ret ?_
 obtain rfl := sj h
 exact ret_st undef [] hpl hst rfl (.tmp z0 .nil) rfl rfl rfl

/- slices.IndexFunc[[]string,string] -/
noncomputable def fslices_IndexFunc_string (s_ : (List Str)) (f_ : (Str → Option Bool)) : Option (Int) := (tailrec (fun (s4 : Int) => ((if (decide (s4 < (s_.length : Int))) = true then (idx s_ s4).bind fun t14 => (f_ t14).bind fun t16 => (if t16 = true then (some (.inr (.inr s4))) else (some (.inl (IntKind.i64.wrap (s4 + (1:Int)))))) else (some (.inr (.inl ())))) : Option ((Int) ⊕ ((Unit) ⊕ (Int))))) (0:Int)).bind fun (e5 : (Unit) ⊕ (Int)) => (match e5 with | .inl _ => (some (-1:Int)) | .inr p23 => (some p23))
set_option maxRecDepth 100000 in
set_option maxHeartbeats 4000000 in
theorem slices_IndexFunc_string_ok {s_ : (List Str)} {f_ : (Str → Option Bool)} {r : Int} (h : fslices_IndexFunc_string s_ f_ = some r) : FnOk Tryz.prog 176 [tsl rS s_,rF178.ty f_] [] (fun _ => []) (fun _ => ti r) := by
 unfold fslices_IndexFunc_string at h
 refine FnOk.enter Tryz.func176 rfl Tryz.ntmps176 (leb rfl) (fun M0 M w0 a hpl hst => ?_)
 replace hst : St M w0 19 [(0,tsl rS s_),(1,rF178.ty f_)] [] a w0 := hst
 refine sr mixed [] hst (fun _ => .o (op_assign .k) <| .n) fun n0 a w hst => ?_
 replace hst := hst.to [1,2] [_,_] [] rfl rfl
 refine wp_seq_k (fun K2 hK2 => ?_)
 refine sr mixed [] hst (fun _ => .q 0 rfl <| .o (op_len ud32 z0) <| .o (op_move .k) <| .n) fun n1 a w hst => ?_
 replace hst := hst.to [1,2,3,4] [_,_,_,_] [] rfl rfl
 obtain ⟨e5,he5,h⟩ := bind_some h
 have hJp22 : ∀ (p22 : Unit) a w,(.inl p22) = e5 → St M w0 19 [] [] a w → K2 a w := by
  intro p22 a w he hst
  subst he
  simp only at h
  refine hK2 _ _ ?_
  try clear hK2 K2
  refine sr mixed [] hst (fun _ => .o (op_assign .k) <| .n) fun n7 a w hst => ?_
  replace hst := hst.to [0] [_] [] rfl rfl
  refine wp_ret ?_
  obtain rfl := sj h
  exact ret_st undef [] hpl hst rfl (.tmp z0 .nil) rfl rfl rfl
 have hJp23 : ∀ (p23 : Int) a w,(.inr p23) = e5 → St M w0 19 [(4,ti p23)] [] a w → Ret Tryz.prog Tryz.f176 M0 [] w0 (fun _ => []) (fun _ => ti r) .ret a w := by
  intro p23 a w he hst
  subst he
  simp only at h
  obtain rfl := sj h
  exact ret_st undef [] hpl hst rfl (.tmp z0 .nil) rfl rfl rfl
 refine wp_block ?_
 refine wp_loopK _ (fun (s4 : Int) a w => St M w0 19 [(7,ti (s_.length : Int)),(8,ti s4),(0,tsl rS s_),(1,rF178.ty f_)] [] a w) _ _ he5 (hst.pick [0,1,2,3]) ?_
 clear h
 intro s4 o a w K25 hI h ho hK25
 have hst := hI
 clear hI
 refine sr mixed [] hst (fun _ => .o (op_lss z1 z0) <| .n) fun n2 a w hst => ?_
 replace hst := hst.to [0,1,2,3,4] [_,_,_,_,_] [] rfl rfl
 refine wp_seq_k (fun K27 hK27 => ?_)
 refine wt hst (fun b33 => ?_) (fun b33 => ?_)
 ·replace h := ite_t b33 h
  refine wp_skip ?_
  refine hK27 _ _ ?_
  try clear hK27 K27
  refine wp_seq_k (fun K28 hK28 => ?_)
  refine wp_block ?_
  refine sr mixed [] hst (fun _ => .q 2 rfl <| .o (op_assign z0) <| .n) fun n3 a w hst => ?_
  replace hst := hst.to [1,3,4,5,6] [_,_,_,_,_] [] rfl rfl
  obtain ⟨t14,ht14,h⟩ := bind_some h
  obtain ⟨t16,ht16,h⟩ := bind_some h
  refine sr mixed [] hst (fun _ => .q 4 rfl <| .q 4 rfl <| .q 2 rfl <| .o (op_index ud32 tok9 z1 z0 ht14) <| .o (op_load tok9 z0) <| .o (op_callT (u := t14) z4 (.cons (.of z0) <| .nil) ht16) <| .n) fun n4 a w hst => ?_
  replace hst := hst.to [5,6,7,8,9,10] [_,_,_,_,_,_] [] rfl rfl
  refine wt hst (fun b32 => ?_) (fun b32 => ?_)
  ·replace h := ite_t b32 h
   refine sr mixed [] hst (fun _ => .q 1 rfl <| .o (op_assign z0) <| .n) fun n5 a w hst => ?_
   replace hst := hst.to [1] [_] [] rfl rfl
   refine wp_ret ?_
   exact hJp23 _ _ _ (ho _ (sj h).symm) (hst.pick [0])
  ·replace h := ite_f b32 h
   refine wp_skip ?_
   refine hK28 _ _ ?_
   try clear hK28 K28
   refine wr mixed [] hst (fun _ => .o (op_add z3 .k) <| .q 0 rfl <| .n) fun n6 a w hst => ?_
   replace hst := hst.to [1,4,5,6] [_,_,_,_] [] rfl rfl
   exact hK25 _ _ _ (sj h).symm (hst.pick [1,0,2,3])
 ·replace h := ite_f b33 h
  refine wp_exit ?_
  exact hJp22 _ _ _ (ho _ (sj h).symm) (hst.pick [])

/- slices.ContainsFunc[[]string,string] -/
noncomputable def fslices_ContainsFunc_string (s_ : (List Str)) (f_ : (Str → Option Bool)) : Option (Bool) := (fslices_IndexFunc_string s_ f_).bind fun t7 => (some (decide (t7 ≥ (0:Int))))
set_option maxRecDepth 100000 in
set_option maxHeartbeats 4000000 in
theorem slices_ContainsFunc_string_ok {s_ : (List Str)} {f_ : (Str → Option Bool)} {r : Bool} (h : fslices_ContainsFunc_string s_ f_ = some r) : FnOk Tryz.prog 159 [tsl rS s_,rF178.ty f_] [] (fun _ => []) (fun _ => tb r) := by
 unfold fslices_ContainsFunc_string at h
 refine FnOk.enter Tryz.func159 rfl Tryz.ntmps159 (leb rfl) (fun M0 M w0 a hpl hst => ?_)
 replace hst : St M w0 9 [(0,tsl rS s_),(1,rF178.ty f_)] [] a w0 := hst
 refine sr mixed [] hst (fun _ => .o (op_assign .k) <| .n) fun n0 a w hst => ?_
 replace hst := hst.to [1,2] [_,_] [] rfl rfl
 obtain ⟨t7,ht7,h⟩ := bind_some h
 refine sr mixed [] hst (fun _ => .q 0 rfl <| .q 2 rfl <| .o (op_callF call176 (slices_IndexFunc_string_ok ht7) (.cons (.of z1) <| .cons (.of z0) <| .nil)) <| .o (op_geq z0 .k) <| .o (op_assign z0) <| .n) fun n1 a w hst => ?_
 replace hst := hst.to [4] [_] [] rfl rfl
 refine wp_ret ?_
 obtain rfl := sj h
 exact ret_st undef [] hpl hst rfl (.tmp z0 .nil) rfl rfl rfl

/- diorama/schema.all[string] -/
noncomputable def fschema_all_string (l_ : (List Str)) (right_ : (Str → Option Bool)) : Option (Bool) := (fslices_ContainsFunc_string l_ (fun x0 => fschema_all_stringq1 x0 right_)).bind fun t7 => (some (!t7))
set_option maxRecDepth 100000 in
set_option maxHeartbeats 4000000 in
theorem schema_all_string_ok {l_ : (List Str)} {right_ : (Str → Option Bool)} {r : Bool} (h : fschema_all_string l_ right_ = some r) : FnOk Tryz.prog 130 [tsl rS l_,rF178.ty right_] [] (fun _ => []) (fun _ => tb r) := by
 unfold fschema_all_string at h
 refine FnOk.enter Tryz.func130 rfl Tryz.ntmps130 (leb rfl) (fun M0 M w0 a hpl hst => ?_)
 replace hst : St M w0 9 [(0,tsl rS l_),(1,rF178.ty right_)] [] a w0 := hst
 refine sr mixed [] hst (fun _ => .o (op_boxR (R := rF178) (u := right_) z1) <| .o (op_assign .k) <| .n) fun n0 a w hst => ?_
 replace hst := hst.to [0,2] [_,_] [] rfl rfl
 obtain ⟨t7,ht7,h⟩ := bind_some h
 refine sr mixed [] hst (fun _ => .q 1 rfl <| .o (op_clo (.cons z1 <| .nil)) <| .o (op_callF call159 (slices_ContainsFunc_string_ok ht7) (.cons (.of z1) <| .cons (.of (Fct.weak z0 (tfn_of call160 (fun _ _ hq => schema_all_stringq1_ok hq)))) <| .nil)) <| .o (op_not z0) <| .o (op_assign z0) <| .n) fun n1 a w hst => ?_
 replace hst := hst.to [4] [_] [] rfl rfl
 refine wp_ret ?_
 obtain rfl := sj h
 exact ret_st undef [] hpl hst rfl (.tmp z0 .nil) rfl rfl rfl

/- diorama/schema.isPick -/
noncomputable def fschema_isPick (words_ : (List Str)) (weights_ : (List Int)) : Option (Bool) := (tailrec (fun (s5 : Int × Int) => ((if (decide (s5.1 < (weights_.length : Int))) = true then (idx weights_ s5.1).bind fun t12 => (fschema_within t12 (0:Int) (1048576:Int)).bind fun t15 => (if (!t15) = true then (some (.inr (.inr false))) else (some (.inl ((IntKind.i64.wrap (s5.1 + (1:Int))),(IntKind.i64.wrap (s5.2 + t12)))))) else (some (.inr (.inl s5.2)))) : Option ((Int × Int) ⊕ ((Int) ⊕ (Bool))))) ((0:Int),(0:Int))).bind fun (e6 : (Int) ⊕ (Bool)) => (match e6 with | .inl p25 => (fschema_within (words_.length : Int) (1:Int) (12:Int)).bind fun t23 => (opt (((t23 && ((words_.length : Int) == (weights_.length : Int))) && (decide (p25 > (0:Int)))) == true) (fschema_all_string words_ (fun x0 => fschema_isName x0)) default).bind fun t37 => (some (((t23 && ((words_.length : Int) == (weights_.length : Int))) && (decide (p25 > (0:Int)))) && t37)) | .inr p26 => (some p26))
set_option maxRecDepth 100000 in
set_option maxHeartbeats 4000000 in
theorem schema_isPick_ok {words_ : (List Str)} {weights_ : (List Int)} {r : Bool} (h : fschema_isPick words_ weights_ = some r) : FnOk Tryz.prog 158 [tsl rS words_,tsl rI weights_] [] (fun _ => []) (fun _ => tb r) := by
 unfold fschema_isPick at h
 refine FnOk.enter Tryz.func158 rfl Tryz.ntmps158 (leb rfl) (fun M0 M w0 a hpl hst => ?_)
 replace hst : St M w0 39 [(0,tsl rS words_),(1,tsl rI weights_)] [] a w0 := hst
 refine sr mixed [] hst (fun _ => .o (op_assign .k) <| .n) fun n0 a w hst => ?_
 replace hst := hst.to [1,2] [_,_] [] rfl rfl
 refine sr mixed [] hst (fun _ => .o (op_assign .k) <| .n) fun n1 a w hst => ?_
 replace hst := hst.to [0,1,2] [_,_,_] [] rfl rfl
 refine wp_seq_k (fun K3 hK3 => ?_)
 refine sr mixed [] hst (fun _ => .q 2 rfl <| .o (op_len ud22 z0) <| .o (op_move .k) <| .n) fun n2 a w hst => ?_
 replace hst := hst.to [0,1,2,3,4,5] [_,_,_,_,_,_] [] rfl rfl
 obtain ⟨e6,he6,h⟩ := bind_some h
 have hJp25 : ∀ (p25 : Int) a w,(.inl p25) = e6 → St M w0 39 [(5,ti p25),(0,tsl rS words_),(1,tsl rI weights_)] [] a w → K3 a w := by
  intro p25 a w he hst
  subst he
  simp only at h
  refine hK3 _ _ ?_
  try clear hK3 K3
  obtain ⟨t23,ht23,h⟩ := bind_some h
  obtain ⟨t37,ht37,h⟩ := bind_some h
  refine sr mixed [] hst (fun _ => .q 1 rfl <| .o (op_len ud32 z0) <| .o (op_callF call97 (schema_within_ok ht23) (.cons (.of z0) <| .cons (.of .k) <| .cons (.of .k) <| .nil)) <| .q 0 rfl <| .g rfl rfl (.b 0 rfl) (fun _ => op_move z5) <| .g rfl rfl (.b 1 rfl) (fun hc => op_len ud32 (.cond z0 hc)) <| .g rfl rfl (.b 2 rfl) (fun _ => op_move z8) <| .g rfl rfl (.b 3 rfl) (fun hc => op_len ud22 (.cond z0 hc)) <| .g rfl rfl (.b 4 rfl) (fun hc => op_eql (.cond z2 hc) (.cond z0 hc)) <| .o (op_and z5 (fun hp => (.cond z0 (beqT hp)))) <| .q 0 rfl <| .g rfl rfl (.b 0 rfl) (fun _ => op_move z11) <| .g rfl rfl (.b 1 rfl) (fun hc => op_gtr (.cond z0 hc) .k) <| .o (op_and z2 (fun hp => (.cond z0 (beqT hp)))) <| .q 0 rfl <| .g rfl rfl (.b 0 rfl) (fun _ => op_move z16) <| .g rfl rfl (.b 1 rfl) (fun hc => op_callF call130 (schema_all_string_ok (opt_t ht37 hc)) (.cons (.of (.cond z0 hc)) <| .cons (.of (Fct.weak .fnE (tfn_of call125 (fun _ _ hq => schema_isName_ok hq)))) <| .nil)) <| .o (op_and z2 (fun hp => (.cond z0 (beqT hp)))) <| .o (op_assign z0) <| .n) fun n9 a w hst => ?_
  replace hst := hst.to [18] [_] [] rfl rfl
  refine wp_ret ?_
  obtain rfl := sj h
  exact ret_st undef [] hpl hst rfl (.tmp z0 .nil) rfl rfl rfl
 have hJp26 : ∀ (p26 : Bool) a w,(.inr p26) = e6 → St M w0 39 [(4,tb p26)] [] a w → Ret Tryz.prog Tryz.f158 M0 [] w0 (fun _ => []) (fun _ => tb r) .ret a w := by
  intro p26 a w he hst
  subst he
  simp only at h
  obtain rfl := sj h
  exact ret_st undef [] hpl hst rfl (.tmp z0 .nil) rfl rfl rfl
 refine wp_block ?_
 refine wp_loopK _ (fun (s5 : Int × Int) a w => St M w0 39 [(8,tsl rI weights_),(9,ti (weights_.length : Int)),(10,ti s5.1),(5,ti s5.2),(0,tsl rS words_),(1,tsl rI weights_)] [] a w) _ _ he6 (hst.pick [0,1,2,3,4,5]) ?_
 clear h
 intro s5 o a w K28 hI h ho hK28
 have hst := hI
 clear hI
 refine sr mixed [] hst (fun _ => .o (op_lss z2 z1) <| .n) fun n3 a w hst => ?_
 replace hst := hst.to [0,1,2,3,4,5,6] [_,_,_,_,_,_,_] [] rfl rfl
 refine wp_seq_k (fun K30 hK30 => ?_)
 refine wt hst (fun b37 => ?_) (fun b37 => ?_)
 ·replace h := ite_t b37 h
  refine wp_skip ?_
  refine hK30 _ _ ?_
  try clear hK30 K30
  refine wp_seq_k (fun K31 hK31 => ?_)
  refine wp_block ?_
  obtain ⟨t12,ht12,h⟩ := bind_some h
  refine sr mixed [] hst (fun _ => .o (op_index ud22 tok3 z1 z3 ht12) <| .o (op_load tok3 z0) <| .o (op_assign z0) <| .n) fun n4 a w hst => ?_
  replace hst := hst.to [2,4,5,6,7,8,9] [_,_,_,_,_,_,_] [] rfl rfl
  refine wp_seq_k (fun K33 hK33 => ?_)
  obtain ⟨t15,ht15,h⟩ := bind_some h
  refine sr mixed [] hst (fun _ => .q 0 rfl <| .o (op_callF call97 (schema_within_ok ht15) (.cons (.of z0) <| .cons (.of .k) <| .cons (.of .k) <| .nil)) <| .o (op_not z0) <| .n) fun n5 a w hst => ?_
  replace hst := hst.to [2,3,4,5,6,7,8,9] [_,_,_,_,_,_,_,_] [] rfl rfl
  refine wt hst (fun b36 => ?_) (fun b36 => ?_)
  ·replace h := ite_t b36 h
   refine sr mixed [] hst (fun _ => .o (op_assign .k) <| .n) fun n6 a w hst => ?_
   replace hst := hst.to [0] [_] [] rfl rfl
   refine wp_ret ?_
   exact hJp26 _ _ _ (ho _ (sj h).symm) (hst.pick [0])
  ·replace h := ite_f b36 h
   refine wp_skip ?_
   refine hK33 _ _ ?_
   try clear hK33 K33
   refine wr mixed [] hst (fun _ => .q 5 rfl <| .q 2 rfl <| .o (op_add z1 z0) <| .o (op_assign z0) <| .n) fun n7 a w hst => ?_
   replace hst := hst.to [3,6,7,8,9,10] [_,_,_,_,_,_] [] rfl rfl
   refine hK31 _ _ ?_
   try clear hK31 K31
   refine wr mixed [] hst (fun _ => .o (op_add z3 .k) <| .q 0 rfl <| .n) fun n8 a w hst => ?_
   replace hst := hst.to [1,2,3,4,5,6] [_,_,_,_,_,_] [] rfl rfl
   exact hK28 _ _ _ (sj h).symm (hst.pick [2,3,0,1,4,5])
 ·replace h := ite_f b37 h
  refine wp_exit ?_
  exact hJp25 _ _ _ (ho _ (sj h).symm) (hst.pick [4,5,6])

/- diorama/schema.isField -/
noncomputable def fschema_isField (f_ : Sapi_Field) : Option (Bool) := (fschema_isName (f_).Name).bind fun t5 => (opt ((!t5) == false) (fschema_only f_) default).bind fun t10 => (opt ((!t5) == false) (fschema_sameField f_ t10) default).bind fun t11 => (if ((!t5) || (!t11)) = true then (some false) else (if ((f_).Kind == (0:Int)) = true then (fschema_within (f_).Lo (-1048576:Int) (1048576:Int)).bind fun t20 => (some t20) else (if ((f_).Kind == (1:Int)) = true then (fschema_isName (f_).Of).bind fun t25 => (opt (t25 == true) (fschema_span (f_).Lo (f_).Hi (0:Int) (65536:Int)) default).bind fun t31 => (some (t25 && t31)) else (if ((f_).Kind == (2:Int)) = true then (fschema_span (f_).Lo (f_).Hi (-1048576:Int) (1048576:Int)).bind fun t39 => (some t39) else (if ((f_).Kind == (3:Int)) = true then (fschema_isPick (f_).Words (f_).Weights).bind fun t46 => (some t46) else (if ((f_).Kind == (4:Int)) = true then (opt (((f_).Of == ([] : Str)) == false) (fschema_isName (f_).Of) default).bind fun t55 => (opt ((((f_).Of == ([] : Str)) || t55) == true) (fschema_span (f_).Lo (f_).Hi (-1048576:Int) (1048576:Int)) default).bind fun t62 => (some ((((f_).Of == ([] : Str)) || t55) && t62)) else (if ((f_).Kind == (5:Int)) = true then (fschema_isName (f_).Of).bind fun t68 => (opt (t68 == true) (fschema_span (f_).Lo (f_).Hi (0:Int) (32:Int)) default).bind fun t74 => (some (t68 && t74)) else (if ((f_).Kind == (6:Int)) = true then (fschema_isName (f_).Of).bind fun t80 => (some t80) else (if ((f_).Kind == (7:Int)) = true then (fschema_isName (f_).Of).bind fun t85 => (opt (t85 == true) (fschema_isName (f_).Up) default).bind fun t89 => (opt ((t85 && t89) == true) (fschema_span (f_).Lo (f_).Hi (0:Int) (1048576:Int)) default).bind fun t96 => (some ((t85 && t89) && t96)) else (if ((f_).Kind == (8:Int)) = true then (fschema_isName (f_).Of).bind fun t102 => (opt (t102 == true) (fschema_isName (f_).Up) default).bind fun t106 => (some (t102 && t106)) else (some false)))))))))))
set_option maxRecDepth 100000 in
set_option maxHeartbeats 4000000 in
theorem schema_isField_ok {f_ : Sapi_Field} {r : Bool} (h : fschema_isField f_ = some r) : FnOk Tryz.prog 128 [rSapi_Field.ty f_] [] (fun _ => []) (fun _ => tb r) := by
 unfold fschema_isField at h
 refine FnOk.enter Tryz.func128 rfl Tryz.ntmps128 (leb rfl) (fun M0 M w0 a hpl hst => ?_)
 replace hst : St M w0 108 [(0,rSapi_Field.ty f_)] [] a w0 := hst
 refine sr mixed [] hst (fun _ => .o (op_boxR (R := rSapi_Field) (u := f_) z0) <| .o (op_assign .k) <| .n) fun n0 a w hst => ?_
 replace hst := hst.to [0] [_] [] rfl rfl
 refine wp_seq_k (fun K2 hK2 => ?_)
 obtain ⟨t5,ht5,h⟩ := bind_some h
 obtain ⟨t10,ht10,h⟩ := bind_some h
 obtain ⟨t11,ht11,h⟩ := bind_some h
 refine sr mixed [] hst (fun _ => .o (op_field fld61_0 z0) <| .o (op_loadT (R := rS) (u := (f_).Name) tok9 z0 rfl) <| .o (op_callF call125 (schema_isName_ok ht5) (.cons (.of z0) <| .nil)) <| .o (op_not z0) <| .q 0 rfl <| .g rfl rfl (.b 0 rfl) (fun _ => op_load tok61 z5) <| .g rfl rfl (.b 1 rfl) (fun _ => op_load tok61 z6) <| .g rfl rfl (.b 2 rfl) (fun hc => op_callF call157 (schema_only_ok (opt_t ht10 hc)) (.cons (.of (.cond z0 hc)) <| .nil)) <| .g rfl rfl (.b 3 rfl) (fun hc => op_callF call156 (schema_sameField_ok (opt_t ht11 hc)) (.cons (.of (.cond z2 hc)) <| .cons (.of (.cond z0 hc)) <| .nil)) <| .g rfl rfl (.b 4 rfl) (fun hc => op_not (.cond z0 hc)) <| .o (op_or z5 (fun hp => (.cond z0 (beqF hp)))) <| .n) fun n1 a w hst => ?_
 replace hst := hst.to [10,11] [_,_] [] rfl rfl
 refine wt hst (fun b35 => ?_) (fun b35 => ?_)
 ·replace h := ite_t b35 h
  refine sr mixed [] hst (fun _ => .o (op_assign .k) <| .n) fun n2 a w hst => ?_
  replace hst := hst.to [0] [_] [] rfl rfl
  refine wp_ret ?_
  obtain rfl := sj h
  exact ret_st undef [] hpl hst rfl (.tmp z0 .nil) rfl rfl rfl
 ·replace h := ite_f b35 h
  refine wp_skip ?_
  refine hK2 _ _ ?_
  try clear hK2 K2
  refine wp_seq_k (fun K5 hK5 => ?_)
  refine sr mixed [] hst (fun _ => .o (op_field fld61_3 z1) <| .o (op_loadT (R := rI) (u := (f_).Kind) tok3 z0 rfl) <| .n) fun n3 a w hst => ?_
  replace hst := hst.to [1,3] [_,_] [] rfl rfl
  refine wp_block ?_
  refine sr mixed [] hst (fun _ => .o (op_eql z0 .k) <| .o (op_assign z0) <| .n) fun n4 a w hst => ?_
  replace hst := hst.to [1,2,3] [_,_,_] [] rfl rfl
  refine wt hst (fun b34 => ?_) (fun b34 => ?_)
  ·replace h := ite_t b34 h
   obtain ⟨t20,ht20,h⟩ := bind_some h
   refine sr mixed [] hst (fun _ => .o (op_field fld61_4 z2) <| .o (op_loadT (R := rI) (u := (f_).Lo) tok3 z0 rfl) <| .o (op_callF call97 (schema_within_ok ht20) (.cons (.of z0) <| .cons (.of .k) <| .cons (.of .k) <| .nil)) <| .o (op_assign z0) <| .n) fun n5 a w hst => ?_
   replace hst := hst.to [3] [_] [] rfl rfl
   refine wp_ret ?_
   obtain rfl := sj h
   exact ret_st undef [] hpl hst rfl (.tmp z0 .nil) rfl rfl rfl
  ·replace h := ite_f b34 h
   refine sr mixed [] hst (fun _ => .o (op_eql z1 .k) <| .o (op_assign z0) <| .n) fun n6 a w hst => ?_
   replace hst := hst.to [1,3,4] [_,_,_] [] rfl rfl
   refine wt hst (fun b33 => ?_) (fun b33 => ?_)
   ·replace h := ite_t b33 h
    obtain ⟨t25,ht25,h⟩ := bind_some h
    obtain ⟨t31,ht31,h⟩ := bind_some h
    refine sr mixed [] hst (fun _ => .o (op_field fld61_1 z2) <| .o (op_loadT (R := rS) (u := (f_).Of) tok9 z0 rfl) <| .o (op_callF call125 (schema_isName_ok ht25) (.cons (.of z0) <| .nil)) <| .q 0 rfl <| .g rfl rfl (.b 0 rfl) (fun _ => op_field fld61_4 z6) <| .g rfl rfl (.b 1 rfl) (fun hc => op_loadT (R := rI) (u := (f_).Lo) tok3 (.cond z0 hc) rfl) <| .g rfl rfl (.b 2 rfl) (fun _ => op_field fld61_5 z8) <| .g rfl rfl (.b 3 rfl) (fun hc => op_loadT (R := rI) (u := (f_).Hi) tok3 (.cond z0 hc) rfl) <| .g rfl rfl (.b 4 rfl) (fun hc => op_callF call126 (schema_span_ok (opt_t ht31 hc)) (.cons (.of (.cond z2 hc)) <| .cons (.of (.cond z0 hc)) <| .cons (.of .k) <| .cons (.of .k) <| .nil)) <| .o (op_and z5 (fun hp => (.cond z0 (beqT hp)))) <| .o (op_assign z0) <| .n) fun n7 a w hst => ?_
    replace hst := hst.to [10] [_] [] rfl rfl
    refine wp_ret ?_
    obtain rfl := sj h
    exact ret_st undef [] hpl hst rfl (.tmp z0 .nil) rfl rfl rfl
   ·replace h := ite_f b33 h
    refine sr mixed [] hst (fun _ => .o (op_eql z1 .k) <| .o (op_assign z0) <| .n) fun n8 a w hst => ?_
    replace hst := hst.to [1,3,4] [_,_,_] [] rfl rfl
    refine wt hst (fun b32 => ?_) (fun b32 => ?_)
    ·replace h := ite_t b32 h
     obtain ⟨t39,ht39,h⟩ := bind_some h
     refine sr mixed [] hst (fun _ => .o (op_field fld61_4 z2) <| .o (op_loadT (R := rI) (u := (f_).Lo) tok3 z0 rfl) <| .o (op_field fld61_5 z4) <| .o (op_loadT (R := rI) (u := (f_).Hi) tok3 z0 rfl) <| .o (op_callF call126 (schema_span_ok ht39) (.cons (.of z2) <| .cons (.of z0) <| .cons (.of .k) <| .cons (.of .k) <| .nil)) <| .o (op_assign z0) <| .n) fun n9 a w hst => ?_
     replace hst := hst.to [5] [_] [] rfl rfl
     refine wp_ret ?_
     obtain rfl := sj h
     exact ret_st undef [] hpl hst rfl (.tmp z0 .nil) rfl rfl rfl
    ·replace h := ite_f b32 h
     refine sr mixed [] hst (fun _ => .o (op_eql z1 .k) <| .o (op_assign z0) <| .n) fun n10 a w hst => ?_
     replace hst := hst.to [1,3,4] [_,_,_] [] rfl rfl
     refine wt hst (fun b31 => ?_) (fun b31 => ?_)
     ·replace h := ite_t b31 h
      obtain ⟨t46,ht46,h⟩ := bind_some h
      refine sr mixed [] hst (fun _ => .o (op_field fld61_6 z2) <| .o (op_loadT (R := (rSl rS)) (u := (f_).Words) tok32 z0 rfl) <| .o (op_field fld61_7 z4) <| .o (op_loadT (R := (rSl rI)) (u := (f_).Weights) tok22 z0 rfl) <| .o (op_callF call158 (schema_isPick_ok ht46) (.cons (.of z2) <| .cons (.of z0) <| .nil)) <| .o (op_assign z0) <| .n) fun n11 a w hst => ?_
      replace hst := hst.to [5] [_] [] rfl rfl
      refine wp_ret ?_
      obtain rfl := sj h
      exact ret_st undef [] hpl hst rfl (.tmp z0 .nil) rfl rfl rfl
     ·replace h := ite_f b31 h
      refine sr mixed [] hst (fun _ => .o (op_eql z1 .k) <| .o (op_assign z0) <| .n) fun n12 a w hst => ?_
      replace hst := hst.to [1,3,4] [_,_,_] [] rfl rfl
      refine wt hst (fun b30 => ?_) (fun b30 => ?_)
      ·replace h := ite_t b30 h
       obtain ⟨t55,ht55,h⟩ := bind_some h
       obtain ⟨t62,ht62,h⟩ := bind_some h
       refine sr mixed [] hst (fun _ => .o (op_field fld61_1 z2) <| .o (op_loadT (R := rS) (u := (f_).Of) tok9 z0 rfl) <| .o (op_eqlS z0 .k) <| .q 0 rfl <| .g rfl rfl (.b 0 rfl) (fun _ => op_field fld61_1 z6) <| .g rfl rfl (.b 1 rfl) (fun hc => op_loadT (R := rS) (u := (f_).Of) tok9 (.cond z0 hc) rfl) <| .g rfl rfl (.b 2 rfl) (fun hc => op_callF call125 (schema_isName_ok (opt_t ht55 hc)) (.cons (.of (.cond z0 hc)) <| .nil)) <| .o (op_or z3 (fun hp => (.cond z0 (beqF hp)))) <| .q 0 rfl <| .g rfl rfl (.b 0 rfl) (fun _ => op_field fld61_4 z11) <| .g rfl rfl (.b 1 rfl) (fun hc => op_loadT (R := rI) (u := (f_).Lo) tok3 (.cond z0 hc) rfl) <| .g rfl rfl (.b 2 rfl) (fun _ => op_field fld61_5 z13) <| .g rfl rfl (.b 3 rfl) (fun hc => op_loadT (R := rI) (u := (f_).Hi) tok3 (.cond z0 hc) rfl) <| .g rfl rfl (.b 4 rfl) (fun hc => op_callF call126 (schema_span_ok (opt_t ht62 hc)) (.cons (.of (.cond z2 hc)) <| .cons (.of (.cond z0 hc)) <| .cons (.of .k) <| .cons (.of .k) <| .nil)) <| .o (op_and z5 (fun hp => (.cond z0 (beqT hp)))) <| .o (op_assign z0) <| .n) fun n13 a w hst => ?_
       replace hst := hst.to [15] [_] [] rfl rfl
       refine wp_ret ?_
       obtain rfl := sj h
       exact ret_st undef [] hpl hst rfl (.tmp z0 .nil) rfl rfl rfl
      ·replace h := ite_f b30 h
       refine sr mixed [] hst (fun _ => .o (op_eql z1 .k) <| .o (op_assign z0) <| .n) fun n14 a w hst => ?_
       replace hst := hst.to [1,3,4] [_,_,_] [] rfl rfl
       refine wt hst (fun b29 => ?_) (fun b29 => ?_)
       ·replace h := ite_t b29 h
        obtain ⟨t68,ht68,h⟩ := bind_some h
        obtain ⟨t74,ht74,h⟩ := bind_some h
        refine sr mixed [] hst (fun _ => .o (op_field fld61_1 z2) <| .o (op_loadT (R := rS) (u := (f_).Of) tok9 z0 rfl) <| .o (op_callF call125 (schema_isName_ok ht68) (.cons (.of z0) <| .nil)) <| .q 0 rfl <| .g rfl rfl (.b 0 rfl) (fun _ => op_field fld61_4 z6) <| .g rfl rfl (.b 1 rfl) (fun hc => op_loadT (R := rI) (u := (f_).Lo) tok3 (.cond z0 hc) rfl) <| .g rfl rfl (.b 2 rfl) (fun _ => op_field fld61_5 z8) <| .g rfl rfl (.b 3 rfl) (fun hc => op_loadT (R := rI) (u := (f_).Hi) tok3 (.cond z0 hc) rfl) <| .g rfl rfl (.b 4 rfl) (fun hc => op_callF call126 (schema_span_ok (opt_t ht74 hc)) (.cons (.of (.cond z2 hc)) <| .cons (.of (.cond z0 hc)) <| .cons (.of .k) <| .cons (.of .k) <| .nil)) <| .o (op_and z5 (fun hp => (.cond z0 (beqT hp)))) <| .o (op_assign z0) <| .n) fun n15 a w hst => ?_
        replace hst := hst.to [10] [_] [] rfl rfl
        refine wp_ret ?_
        obtain rfl := sj h
        exact ret_st undef [] hpl hst rfl (.tmp z0 .nil) rfl rfl rfl
       ·replace h := ite_f b29 h
        refine sr mixed [] hst (fun _ => .o (op_eql z1 .k) <| .o (op_assign z0) <| .n) fun n16 a w hst => ?_
        replace hst := hst.to [1,3,4] [_,_,_] [] rfl rfl
        refine wt hst (fun b28 => ?_) (fun b28 => ?_)
        ·replace h := ite_t b28 h
         obtain ⟨t80,ht80,h⟩ := bind_some h
         refine sr mixed [] hst (fun _ => .o (op_field fld61_1 z2) <| .o (op_loadT (R := rS) (u := (f_).Of) tok9 z0 rfl) <| .o (op_callF call125 (schema_isName_ok ht80) (.cons (.of z0) <| .nil)) <| .o (op_assign z0) <| .n) fun n17 a w hst => ?_
         replace hst := hst.to [3] [_] [] rfl rfl
         refine wp_ret ?_
         obtain rfl := sj h
         exact ret_st undef [] hpl hst rfl (.tmp z0 .nil) rfl rfl rfl
        ·replace h := ite_f b28 h
         refine sr mixed [] hst (fun _ => .o (op_eql z1 .k) <| .o (op_assign z0) <| .n) fun n18 a w hst => ?_
         replace hst := hst.to [1,3,4] [_,_,_] [] rfl rfl
         refine wt hst (fun b27 => ?_) (fun b27 => ?_)
         ·replace h := ite_t b27 h
          obtain ⟨t85,ht85,h⟩ := bind_some h
          obtain ⟨t89,ht89,h⟩ := bind_some h
          obtain ⟨t96,ht96,h⟩ := bind_some h
          refine sr mixed [] hst (fun _ => .o (op_field fld61_1 z2) <| .o (op_loadT (R := rS) (u := (f_).Of) tok9 z0 rfl) <| .o (op_callF call125 (schema_isName_ok ht85) (.cons (.of z0) <| .nil)) <| .q 0 rfl <| .g rfl rfl (.b 0 rfl) (fun _ => op_field fld61_2 z6) <| .g rfl rfl (.b 1 rfl) (fun hc => op_loadT (R := rS) (u := (f_).Up) tok9 (.cond z0 hc) rfl) <| .g rfl rfl (.b 2 rfl) (fun hc => op_callF call125 (schema_isName_ok (opt_t ht89 hc)) (.cons (.of (.cond z0 hc)) <| .nil)) <| .o (op_and z3 (fun hp => (.cond z0 (beqT hp)))) <| .q 0 rfl <| .g rfl rfl (.b 0 rfl) (fun _ => op_field fld61_4 z11) <| .g rfl rfl (.b 1 rfl) (fun hc => op_loadT (R := rI) (u := (f_).Lo) tok3 (.cond z0 hc) rfl) <| .g rfl rfl (.b 2 rfl) (fun _ => op_field fld61_5 z13) <| .g rfl rfl (.b 3 rfl) (fun hc => op_loadT (R := rI) (u := (f_).Hi) tok3 (.cond z0 hc) rfl) <| .g rfl rfl (.b 4 rfl) (fun hc => op_callF call126 (schema_span_ok (opt_t ht96 hc)) (.cons (.of (.cond z2 hc)) <| .cons (.of (.cond z0 hc)) <| .cons (.of .k) <| .cons (.of .k) <| .nil)) <| .o (op_and z5 (fun hp => (.cond z0 (beqT hp)))) <| .o (op_assign z0) <| .n) fun n19 a w hst => ?_
          replace hst := hst.to [15] [_] [] rfl rfl
          refine wp_ret ?_
          obtain rfl := sj h
          exact ret_st undef [] hpl hst rfl (.tmp z0 .nil) rfl rfl rfl
         ·replace h := ite_f b27 h
          refine sr mixed [] hst (fun _ => .o (op_eql z1 .k) <| .o (op_assign z0) <| .n) fun n20 a w hst => ?_
          replace hst := hst.to [1,4] [_,_] [] rfl rfl
          refine wt hst (fun b26 => ?_) (fun b26 => ?_)
          ·replace h := ite_t b26 h
           obtain ⟨t102,ht102,h⟩ := bind_some h
           obtain ⟨t106,ht106,h⟩ := bind_some h
           refine sr mixed [] hst (fun _ => .o (op_field fld61_1 z1) <| .o (op_loadT (R := rS) (u := (f_).Of) tok9 z0 rfl) <| .o (op_callF call125 (schema_isName_ok ht102) (.cons (.of z0) <| .nil)) <| .q 0 rfl <| .g rfl rfl (.b 0 rfl) (fun _ => op_field fld61_2 z5) <| .g rfl rfl (.b 1 rfl) (fun hc => op_loadT (R := rS) (u := (f_).Up) tok9 (.cond z0 hc) rfl) <| .g rfl rfl (.b 2 rfl) (fun hc => op_callF call125 (schema_isName_ok (opt_t ht106 hc)) (.cons (.of (.cond z0 hc)) <| .nil)) <| .o (op_and z3 (fun hp => (.cond z0 (beqT hp)))) <| .o (op_assign z0) <| .n) fun n21 a w hst => ?_
           replace hst := hst.to [8] [_] [] rfl rfl
           refine wp_ret ?_
           obtain rfl := sj h
           exact ret_st undef [] hpl hst rfl (.tmp z0 .nil) rfl rfl rfl
          ·replace h := ite_f b26 h
           refine wp_skip ?_
           refine hK5 _ _ ?_
           try clear hK5 K5
           refine sr mixed [] hst (fun _ => .o (op_assign .k) <| .n) fun n22 a w hst => ?_
           replace hst := hst.to [0] [_] [] rfl rfl
           refine wp_ret ?_
           obtain rfl := sj h
           exact ret_st undef [] hpl hst rfl (.tmp z0 .nil) rfl rfl rfl

/- diorama/schema.isKind -/
noncomputable def fschema_isKind (k_ : Sapi_Kind) : Option (Bool) := (fschema_isName (k_).Name).bind fun t5 => (opt (t5 == true) (fschema_span (k_).Lo (k_).Hi (0:Int) (65536:Int)) default).bind fun t11 => (opt (((t5 && t11) && (decide (((k_).Fields.length : Int) ≤ (10:Int)))) == true) (fschema_all_Field (k_).Fields (fun x0 => fschema_isField x0)) default).bind fun t22 => (some (((t5 && t11) && (decide (((k_).Fields.length : Int) ≤ (10:Int)))) && t22))
set_option maxRecDepth 100000 in
set_option maxHeartbeats 4000000 in
theorem schema_isKind_ok {k_ : Sapi_Kind} {r : Bool} (h : fschema_isKind k_ = some r) : FnOk Tryz.prog 99 [rSapi_Kind.ty k_] [] (fun _ => []) (fun _ => tb r) := by
 unfold fschema_isKind at h
 refine FnOk.enter Tryz.func99 rfl Tryz.ntmps99 (leb rfl) (fun M0 M w0 a hpl hst => ?_)
 replace hst : St M w0 24 [(0,rSapi_Kind.ty k_)] [] a w0 := hst
 refine sr mixed [] hst (fun _ => .o (op_boxR (R := rSapi_Kind) (u := k_) z0) <| .o (op_assign .k) <| .n) fun n0 a w hst => ?_
 replace hst := hst.to [0] [_] [] rfl rfl
 obtain ⟨t5,ht5,h⟩ := bind_some h
 obtain ⟨t11,ht11,h⟩ := bind_some h
 obtain ⟨t22,ht22,h⟩ := bind_some h
 refine sr mixed [] hst (fun _ => .o (op_field fld55_0 z0) <| .o (op_loadT (R := rS) (u := (k_).Name) tok9 z0 rfl) <| .o (op_callF call125 (schema_isName_ok ht5) (.cons (.of z0) <| .nil)) <| .q 0 rfl <| .g rfl rfl (.b 0 rfl) (fun _ => op_field fld55_1 z4) <| .g rfl rfl (.b 1 rfl) (fun hc => op_loadT (R := rI) (u := (k_).Lo) tok3 (.cond z0 hc) rfl) <| .g rfl rfl (.b 2 rfl) (fun _ => op_field fld55_2 z6) <| .g rfl rfl (.b 3 rfl) (fun hc => op_loadT (R := rI) (u := (k_).Hi) tok3 (.cond z0 hc) rfl) <| .g rfl rfl (.b 4 rfl) (fun hc => op_callF call126 (schema_span_ok (opt_t ht11 hc)) (.cons (.of (.cond z2 hc)) <| .cons (.of (.cond z0 hc)) <| .cons (.of .k) <| .cons (.of .k) <| .nil)) <| .o (op_and z5 (fun hp => (.cond z0 (beqT hp)))) <| .q 0 rfl <| .g rfl rfl (.b 0 rfl) (fun _ => op_field fld55_3 z11) <| .g rfl rfl (.b 1 rfl) (fun hc => op_loadT (R := (rSl rSapi_Field)) (u := (k_).Fields) tok53 (.cond z0 hc) rfl) <| .g rfl rfl (.b 2 rfl) (fun hc => op_len ud53 (.cond z0 hc)) <| .g rfl rfl (.b 3 rfl) (fun hc => op_leq (.cond z0 hc) .k) <| .o (op_and z4 (fun hp => (.cond z0 (beqT hp)))) <| .q 0 rfl <| .g rfl rfl (.b 0 rfl) (fun _ => op_field fld55_3 z17) <| .g rfl rfl (.b 1 rfl) (fun hc => op_loadT (R := (rSl rSapi_Field)) (u := (k_).Fields) tok53 (.cond z0 hc) rfl) <| .g rfl rfl (.b 2 rfl) (fun hc => op_callF call127 (schema_all_Field_ok (opt_t ht22 hc)) (.cons (.of (.cond z0 hc)) <| .cons (.of (Fct.weak .fnE (tfn_of call128 (fun _ _ hq => schema_isField_ok hq)))) <| .nil)) <| .o (op_and z3 (fun hp => (.cond z0 (beqT hp)))) <| .o (op_assign z0) <| .n) fun n1 a w hst => ?_
 replace hst := hst.to [21] [_] [] rfl rfl
 refine wp_ret ?_
 obtain rfl := sj h
 exact ret_st undef [] hpl hst rfl (.tmp z0 .nil) rfl rfl rfl

/- diorama/schema.all[diorama/api.Life]$1 -/
noncomputable def fschema_all_Lifeq1 (x_ : Sapi_Life) (c0_ : (Sapi_Life → Option Bool)) : Option (Bool) := (c0_ x_).bind fun t6 => (some (!t6))
set_option maxRecDepth 100000 in
set_option maxHeartbeats 4000000 in
theorem schema_all_Lifeq1_ok {x_ : Sapi_Life} {c0_ : (Sapi_Life → Option Bool)} {r : Bool} (h : fschema_all_Lifeq1 x_ c0_ = some r) : FnOk Tryz.prog 129 [rSapi_Life.ty x_,tptr (rF122.cs c0_)] [] (fun _ => []) (fun _ => tb r) := by
 unfold fschema_all_Lifeq1 at h
 refine FnOk.enter Tryz.func129 rfl Tryz.ntmps129 (leb rfl) (fun M0 M w0 a hpl hst => ?_)
 replace hst : St M w0 8 [(0,rSapi_Life.ty x_),(1,tptr (rF122.cs c0_))] [] a w0 := hst
 refine sr mixed [] hst (fun _ => .o (op_boxR (R := rSapi_Life) (u := x_) z0) <| .o (op_assign .k) <| .n) fun n0 a w hst => ?_
 replace hst := hst.to [0,3] [_,_] [] rfl rfl
 obtain ⟨t6,ht6,h⟩ := bind_some h
 refine sr mixed [] hst (fun _ => .o (op_load tok122 z1) <| .o (op_load tok81 z1) <| .o (op_callT (u := x_) z1 (.cons (.of z0) <| .nil) ht6) <| .o (op_not z0) <| .o (op_assign z0) <| .n) fun n1 a w hst => ?_
 replace hst := hst.to [4] [_] [] rfl rfl
 refine wp_ret ?_
 obtain rfl := sj h
 exact ret_st undef [] hpl hst rfl (.tmp z0 .nil) rfl rfl rfl

/- slices.IndexFunc[[]diorama/api.Life,diorama/api.Life] -/
noncomputable def fslices_IndexFunc_Life (s_ : (List Sapi_Life)) (f_ : (Sapi_Life → Option Bool)) : Option (Int) := (tailrec (fun (s4 : Int) => ((if (decide (s4 < (s_.length : Int))) = true then (idx s_ s4).bind fun t14 => (f_ t14).bind fun t16 => (if t16 = true then (some (.inr (.inr s4))) else (some (.inl (IntKind.i64.wrap (s4 + (1:Int)))))) else (some (.inr (.inl ())))) : Option ((Int) ⊕ ((Unit) ⊕ (Int))))) (0:Int)).bind fun (e5 : (Unit) ⊕ (Int)) => (match e5 with | .inl _ => (some (-1:Int)) | .inr p23 => (some p23))
set_option maxRecDepth 100000 in
set_option maxHeartbeats 4000000 in
theorem slices_IndexFunc_Life_ok {s_ : (List Sapi_Life)} {f_ : (Sapi_Life → Option Bool)} {r : Int} (h : fslices_IndexFunc_Life s_ f_ = some r) : FnOk Tryz.prog 105 [tsl rSapi_Life s_,rF122.ty f_] [] (fun _ => []) (fun _ => ti r) := by
 unfold fslices_IndexFunc_Life at h
 refine FnOk.enter Tryz.func105 rfl Tryz.ntmps105 (leb rfl) (fun M0 M w0 a hpl hst => ?_)
 replace hst : St M w0 19 [(0,tsl rSapi_Life s_),(1,rF122.ty f_)] [] a w0 := hst
 refine sr mixed [] hst (fun _ => .o (op_assign .k) <| .n) fun n0 a w hst => ?_
 replace hst := hst.to [1,2] [_,_] [] rfl rfl
 refine wp_seq_k (fun K2 hK2 => ?_)
 refine sr mixed [] hst (fun _ => .q 0 rfl <| .o (op_len ud24 z0) <| .o (op_move .k) <| .n) fun n1 a w hst => ?_
 replace hst := hst.to [1,2,3,4] [_,_,_,_] [] rfl rfl
 obtain ⟨e5,he5,h⟩ := bind_some h
 have hJp22 : ∀ (p22 : Unit) a w,(.inl p22) = e5 → St M w0 19 [] [] a w → K2 a w := by
  intro p22 a w he hst
  subst he
  simp only at h
  refine hK2 _ _ ?_
  try clear hK2 K2
  refine sr mixed [] hst (fun _ => .o (op_assign .k) <| .n) fun n7 a w hst => ?_
  replace hst := hst.to [0] [_] [] rfl rfl
  refine wp_ret ?_
  obtain rfl := sj h
  exact ret_st undef [] hpl hst rfl (.tmp z0 .nil) rfl rfl rfl
 have hJp23 : ∀ (p23 : Int) a w,(.inr p23) = e5 → St M w0 19 [(4,ti p23)] [] a w → Ret Tryz.prog Tryz.f105 M0 [] w0 (fun _ => []) (fun _ => ti r) .ret a w := by
  intro p23 a w he hst
  subst he
  simp only at h
  obtain rfl := sj h
  exact ret_st undef [] hpl hst rfl (.tmp z0 .nil) rfl rfl rfl
 refine wp_block ?_
 refine wp_loopK _ (fun (s4 : Int) a w => St M w0 19 [(7,ti (s_.length : Int)),(8,ti s4),(0,tsl rSapi_Life s_),(1,rF122.ty f_)] [] a w) _ _ he5 (hst.pick [0,1,2,3]) ?_
 clear h
 intro s4 o a w K25 hI h ho hK25
 have hst := hI
 clear hI
 refine sr mixed [] hst (fun _ => .o (op_lss z1 z0) <| .n) fun n2 a w hst => ?_
 replace hst := hst.to [0,1,2,3,4] [_,_,_,_,_] [] rfl rfl
 refine wp_seq_k (fun K27 hK27 => ?_)
 refine wt hst (fun b33 => ?_) (fun b33 => ?_)
 ·replace h := ite_t b33 h
  refine wp_skip ?_
  refine hK27 _ _ ?_
  try clear hK27 K27
  refine wp_seq_k (fun K28 hK28 => ?_)
  refine wp_block ?_
  refine sr mixed [] hst (fun _ => .q 2 rfl <| .o (op_assign z0) <| .n) fun n3 a w hst => ?_
  replace hst := hst.to [1,3,4,5,6] [_,_,_,_,_] [] rfl rfl
  obtain ⟨t14,ht14,h⟩ := bind_some h
  obtain ⟨t16,ht16,h⟩ := bind_some h
  refine sr mixed [] hst (fun _ => .q 4 rfl <| .q 4 rfl <| .q 2 rfl <| .o (op_index ud24 tok81 z1 z0 ht14) <| .o (op_load tok81 z0) <| .o (op_callT (u := t14) z4 (.cons (.of z0) <| .nil) ht16) <| .n) fun n4 a w hst => ?_
  replace hst := hst.to [5,6,7,8,9,10] [_,_,_,_,_,_] [] rfl rfl
  refine wt hst (fun b32 => ?_) (fun b32 => ?_)
  ·replace h := ite_t b32 h
   refine sr mixed [] hst (fun _ => .q 1 rfl <| .o (op_assign z0) <| .n) fun n5 a w hst => ?_
   replace hst := hst.to [1] [_] [] rfl rfl
   refine wp_ret ?_
   exact hJp23 _ _ _ (ho _ (sj h).symm) (hst.pick [0])
  ·replace h := ite_f b32 h
   refine wp_skip ?_
   refine hK28 _ _ ?_
   try clear hK28 K28
   refine wr mixed [] hst (fun _ => .o (op_add z3 .k) <| .q 0 rfl <| .n) fun n6 a w hst => ?_
   replace hst := hst.to [1,4,5,6] [_,_,_,_] [] rfl rfl
   exact hK25 _ _ _ (sj h).symm (hst.pick [1,0,2,3])
 ·replace h := ite_f b33 h
  refine wp_exit ?_
  exact hJp22 _ _ _ (ho _ (sj h).symm) (hst.pick [])

/- slices.ContainsFunc[[]diorama/api.Life,diorama/api.Life] -/
noncomputable def fslices_ContainsFunc_Life (s_ : (List Sapi_Life)) (f_ : (Sapi_Life → Option Bool)) : Option (Bool) := (fslices_IndexFunc_Life s_ f_).bind fun t7 => (some (decide (t7 ≥ (0:Int))))
set_option maxRecDepth 100000 in
set_option maxHeartbeats 4000000 in
theorem slices_ContainsFunc_Life_ok {s_ : (List Sapi_Life)} {f_ : (Sapi_Life → Option Bool)} {r : Bool} (h : fslices_ContainsFunc_Life s_ f_ = some r) : FnOk Tryz.prog 64 [tsl rSapi_Life s_,rF122.ty f_] [] (fun _ => []) (fun _ => tb r) := by
 unfold fslices_ContainsFunc_Life at h
 refine FnOk.enter Tryz.func64 rfl Tryz.ntmps64 (leb rfl) (fun M0 M w0 a hpl hst => ?_)
 replace hst : St M w0 9 [(0,tsl rSapi_Life s_),(1,rF122.ty f_)] [] a w0 := hst
 refine sr mixed [] hst (fun _ => .o (op_assign .k) <| .n) fun n0 a w hst => ?_
 replace hst := hst.to [1,2] [_,_] [] rfl rfl
 obtain ⟨t7,ht7,h⟩ := bind_some h
 refine sr mixed [] hst (fun _ => .q 0 rfl <| .q 2 rfl <| .o (op_callF call105 (slices_IndexFunc_Life_ok ht7) (.cons (.of z1) <| .cons (.of z0) <| .nil)) <| .o (op_geq z0 .k) <| .o (op_assign z0) <| .n) fun n1 a w hst => ?_
 replace hst := hst.to [4] [_] [] rfl rfl
 refine wp_ret ?_
 obtain rfl := sj h
 exact ret_st undef [] hpl hst rfl (.tmp z0 .nil) rfl rfl rfl

/- diorama/schema.all[diorama/api.Life] -/
noncomputable def fschema_all_Life (l_ : (List Sapi_Life)) (right_ : (Sapi_Life → Option Bool)) : Option (Bool) := (fslices_ContainsFunc_Life l_ (fun x0 => fschema_all_Lifeq1 x0 right_)).bind fun t7 => (some (!t7))
set_option maxRecDepth 100000 in
set_option maxHeartbeats 4000000 in
theorem schema_all_Life_ok {l_ : (List Sapi_Life)} {right_ : (Sapi_Life → Option Bool)} {r : Bool} (h : fschema_all_Life l_ right_ = some r) : FnOk Tryz.prog 100 [tsl rSapi_Life l_,rF122.ty right_] [] (fun _ => []) (fun _ => tb r) := by
 unfold fschema_all_Life at h
 refine FnOk.enter Tryz.func100 rfl Tryz.ntmps100 (leb rfl) (fun M0 M w0 a hpl hst => ?_)
 replace hst : St M w0 9 [(0,tsl rSapi_Life l_),(1,rF122.ty right_)] [] a w0 := hst
 refine sr mixed [] hst (fun _ => .o (op_boxR (R := rF122) (u := right_) z1) <| .o (op_assign .k) <| .n) fun n0 a w hst => ?_
 replace hst := hst.to [0,2] [_,_] [] rfl rfl
 obtain ⟨t7,ht7,h⟩ := bind_some h
 refine sr mixed [] hst (fun _ => .q 1 rfl <| .o (op_clo (.cons z1 <| .nil)) <| .o (op_callF call64 (slices_ContainsFunc_Life_ok ht7) (.cons (.of z1) <| .cons (.of (Fct.weak z0 (tfn_of call129 (fun _ _ hq => schema_all_Lifeq1_ok hq)))) <| .nil)) <| .o (op_not z0) <| .o (op_assign z0) <| .n) fun n1 a w hst => ?_
 replace hst := hst.to [4] [_] [] rfl rfl
 refine wp_ret ?_
 obtain rfl := sj h
 exact ret_st undef [] hpl hst rfl (.tmp z0 .nil) rfl rfl rfl

/- diorama/schema.isLife$1 -/
noncomputable def fschema_isLifeq1 (m_ : A2_Int) (c0_ : Int) : Option (Bool) := (fschema_within (m_).a0 (0:Int) (IntKind.i64.wrap (c0_ - (1:Int)))).bind fun t8 => (opt (t8 == true) (fschema_within (m_).a1 (0:Int) (IntKind.i64.wrap (c0_ - (1:Int)))) default).bind fun t14 => (some (t8 && t14))
set_option maxRecDepth 100000 in
set_option maxHeartbeats 4000000 in
theorem schema_isLifeq1_ok {m_ : A2_Int} {c0_ : Int} {r : Bool} (h : fschema_isLifeq1 m_ c0_ = some r) : FnOk Tryz.prog 132 [rA2_Int.ty m_,tptr (rI.cs c0_)] [] (fun _ => []) (fun _ => tb r) := by
 unfold fschema_isLifeq1 at h
 refine FnOk.enter Tryz.func132 rfl Tryz.ntmps132 (leb rfl) (fun M0 M w0 a hpl hst => ?_)
 replace hst : St M w0 16 [(0,rA2_Int.ty m_),(1,tptr (rI.cs c0_))] [] a w0 := hst
 refine sr mixed [] hst (fun _ => .o (op_boxR (R := rA2_Int) (u := m_) z0) <| .o (op_assign .k) <| .n) fun n0 a w hst => ?_
 replace hst := hst.to [0,3] [_,_] [] rfl rfl
 obtain ⟨t8,ht8,h⟩ := bind_some h
 obtain ⟨t14,ht14,h⟩ := bind_some h
 refine sr mixed [] hst (fun _ => .o (op_idxA 0 rfl ud82 tok3 z0 .k (by decide)) <| .o (op_loadT (R := rI) (u := (m_).a0) tok3 z0 rfl) <| .o (op_load tok3 z3) <| .o (op_sub z0 .k) <| .o (op_callF call97 (schema_within_ok ht8) (.cons (.of z2) <| .cons (.of .k) <| .cons (.of z0) <| .nil)) <| .q 0 rfl <| .g rfl rfl (.b 0 rfl) (fun _ => op_idxA 1 rfl ud82 tok3 z6 .k (by decide)) <| .g rfl rfl (.b 1 rfl) (fun hc => op_loadT (R := rI) (u := (m_).a1) tok3 (.cond z0 hc) rfl) <| .g rfl rfl (.b 2 rfl) (fun _ => op_load tok3 z9) <| .g rfl rfl (.b 3 rfl) (fun hc => op_sub (.cond z0 hc) .k) <| .g rfl rfl (.b 4 rfl) (fun hc => op_callF call97 (schema_within_ok (opt_t ht14 hc)) (.cons (.of (.cond z2 hc)) <| .cons (.of .k) <| .cons (.of (.cond z0 hc)) <| .nil)) <| .o (op_and z5 (fun hp => (.cond z0 (beqT hp)))) <| .o (op_assign z0) <| .n) fun n1 a w hst => ?_
 replace hst := hst.to [12] [_] [] rfl rfl
 refine wp_ret ?_
 obtain rfl := sj h
 exact ret_st undef [] hpl hst rfl (.tmp z0 .nil) rfl rfl rfl

/- diorama/schema.all[[2]int]$1 -/
noncomputable def fschema_all_Twointq1 (x_ : A2_Int) (c0_ : (A2_Int → Option Bool)) : Option (Bool) := (c0_ x_).bind fun t6 => (some (!t6))
set_option maxRecDepth 100000 in
set_option maxHeartbeats 4000000 in
theorem schema_all_Twointq1_ok {x_ : A2_Int} {c0_ : (A2_Int → Option Bool)} {r : Bool} (h : fschema_all_Twointq1 x_ c0_ = some r) : FnOk Tryz.prog 162 [rA2_Int.ty x_,tptr (rF183.cs c0_)] [] (fun _ => []) (fun _ => tb r) := by
 unfold fschema_all_Twointq1 at h
 refine FnOk.enter Tryz.func162 rfl Tryz.ntmps162 (leb rfl) (fun M0 M w0 a hpl hst => ?_)
 replace hst : St M w0 8 [(0,rA2_Int.ty x_),(1,tptr (rF183.cs c0_))] [] a w0 := hst
 refine sr mixed [] hst (fun _ => .o (op_boxR (R := rA2_Int) (u := x_) z0) <| .o (op_assign .k) <| .n) fun n0 a w hst => ?_
 replace hst := hst.to [0,3] [_,_] [] rfl rfl
 obtain ⟨t6,ht6,h⟩ := bind_some h
 refine sr mixed [] hst (fun _ => .o (op_load tok183 z1) <| .o (op_load tok82 z1) <| .o (op_callT (u := x_) z1 (.cons (.of z0) <| .nil) ht6) <| .o (op_not z0) <| .o (op_assign z0) <| .n) fun n1 a w hst => ?_
 replace hst := hst.to [4] [_] [] rfl rfl
 refine wp_ret ?_
 obtain rfl := sj h
 exact ret_st undef [] hpl hst rfl (.tmp z0 .nil) rfl rfl rfl

/- slices.IndexFunc[[][2]int,[2]int] -/
noncomputable def fslices_IndexFunc_Twoint (s_ : (List A2_Int)) (f_ : (A2_Int → Option Bool)) : Option (Int) := (tailrec (fun (s4 : Int) => ((if (decide (s4 < (s_.length : Int))) = true then (idx s_ s4).bind fun t14 => (f_ t14).bind fun t16 => (if t16 = true then (some (.inr (.inr s4))) else (some (.inl (IntKind.i64.wrap (s4 + (1:Int)))))) else (some (.inr (.inl ())))) : Option ((Int) ⊕ ((Unit) ⊕ (Int))))) (0:Int)).bind fun (e5 : (Unit) ⊕ (Int)) => (match e5 with | .inl _ => (some (-1:Int)) | .inr p23 => (some p23))
set_option maxRecDepth 100000 in
set_option maxHeartbeats 4000000 in
theorem slices_IndexFunc_Twoint_ok {s_ : (List A2_Int)} {f_ : (A2_Int → Option Bool)} {r : Int} (h : fslices_IndexFunc_Twoint s_ f_ = some r) : FnOk Tryz.prog 177 [tsl rA2_Int s_,rF183.ty f_] [] (fun _ => []) (fun _ => ti r) := by
 unfold fslices_IndexFunc_Twoint at h
 refine FnOk.enter Tryz.func177 rfl Tryz.ntmps177 (leb rfl) (fun M0 M w0 a hpl hst => ?_)
 replace hst : St M w0 19 [(0,tsl rA2_Int s_),(1,rF183.ty f_)] [] a w0 := hst
 refine sr mixed [] hst (fun _ => .o (op_assign .k) <| .n) fun n0 a w hst => ?_
 replace hst := hst.to [1,2] [_,_] [] rfl rfl
 refine wp_seq_k (fun K2 hK2 => ?_)
 refine sr mixed [] hst (fun _ => .q 0 rfl <| .o (op_len ud79 z0) <| .o (op_move .k) <| .n) fun n1 a w hst => ?_
 replace hst := hst.to [1,2,3,4] [_,_,_,_] [] rfl rfl
 obtain ⟨e5,he5,h⟩ := bind_some h
 have hJp22 : ∀ (p22 : Unit) a w,(.inl p22) = e5 → St M w0 19 [] [] a w → K2 a w := by
  intro p22 a w he hst
  subst he
  simp only at h
  refine hK2 _ _ ?_
  try clear hK2 K2
  refine sr mixed [] hst (fun _ => .o (op_assign .k) <| .n) fun n7 a w hst => ?_
  replace hst := hst.to [0] [_] [] rfl rfl
  refine wp_ret ?_
  obtain rfl := sj h
  exact ret_st undef [] hpl hst rfl (.tmp z0 .nil) rfl rfl rfl
 have hJp23 : ∀ (p23 : Int) a w,(.inr p23) = e5 → St M w0 19 [(4,ti p23)] [] a w → Ret Tryz.prog Tryz.f177 M0 [] w0 (fun _ => []) (fun _ => ti r) .ret a w := by
  intro p23 a w he hst
  subst he
  simp only at h
  obtain rfl := sj h
  exact ret_st undef [] hpl hst rfl (.tmp z0 .nil) rfl rfl rfl
 refine wp_block ?_
 refine wp_loopK _ (fun (s4 : Int) a w => St M w0 19 [(7,ti (s_.length : Int)),(8,ti s4),(0,tsl rA2_Int s_),(1,rF183.ty f_)] [] a w) _ _ he5 (hst.pick [0,1,2,3]) ?_
 clear h
 intro s4 o a w K25 hI h ho hK25
 have hst := hI
 clear hI
 refine sr mixed [] hst (fun _ => .o (op_lss z1 z0) <| .n) fun n2 a w hst => ?_
 replace hst := hst.to [0,1,2,3,4] [_,_,_,_,_] [] rfl rfl
 refine wp_seq_k (fun K27 hK27 => ?_)
 refine wt hst (fun b33 => ?_) (fun b33 => ?_)
 ·replace h := ite_t b33 h
  refine wp_skip ?_
  refine hK27 _ _ ?_
  try clear hK27 K27
  refine wp_seq_k (fun K28 hK28 => ?_)
  refine wp_block ?_
  refine sr mixed [] hst (fun _ => .q 2 rfl <| .o (op_assign z0) <| .n) fun n3 a w hst => ?_
  replace hst := hst.to [1,3,4,5,6] [_,_,_,_,_] [] rfl rfl
  obtain ⟨t14,ht14,h⟩ := bind_some h
  obtain ⟨t16,ht16,h⟩ := bind_some h
  refine sr mixed [] hst (fun _ => .q 4 rfl <| .q 4 rfl <| .q 2 rfl <| .o (op_index ud79 tok82 z1 z0 ht14) <| .o (op_load tok82 z0) <| .o (op_callT (u := t14) z4 (.cons (.of z0) <| .nil) ht16) <| .n) fun n4 a w hst => ?_
  replace hst := hst.to [5,6,7,8,9,10] [_,_,_,_,_,_] [] rfl rfl
  refine wt hst (fun b32 => ?_) (fun b32 => ?_)
  ·replace h := ite_t b32 h
   refine sr mixed [] hst (fun _ => .q 1 rfl <| .o (op_assign z0) <| .n) fun n5 a w hst => ?_
   replace hst := hst.to [1] [_] [] rfl rfl
   refine wp_ret ?_
   exact hJp23 _ _ _ (ho _ (sj h).symm) (hst.pick [0])
  ·replace h := ite_f b32 h
   refine wp_skip ?_
   refine hK28 _ _ ?_
   try clear hK28 K28
   refine wr mixed [] hst (fun _ => .o (op_add z3 .k) <| .q 0 rfl <| .n) fun n6 a w hst => ?_
   replace hst := hst.to [1,4,5,6] [_,_,_,_] [] rfl rfl
   exact hK25 _ _ _ (sj h).symm (hst.pick [1,0,2,3])
 ·replace h := ite_f b33 h
  refine wp_exit ?_
  exact hJp22 _ _ _ (ho _ (sj h).symm) (hst.pick [])

/- slices.ContainsFunc[[][2]int,[2]int] -/
noncomputable def fslices_ContainsFunc_Twoint (s_ : (List A2_Int)) (f_ : (A2_Int → Option Bool)) : Option (Bool) := (fslices_IndexFunc_Twoint s_ f_).bind fun t7 => (some (decide (t7 ≥ (0:Int))))
set_option maxRecDepth 100000 in
set_option maxHeartbeats 4000000 in
theorem slices_ContainsFunc_Twoint_ok {s_ : (List A2_Int)} {f_ : (A2_Int → Option Bool)} {r : Bool} (h : fslices_ContainsFunc_Twoint s_ f_ = some r) : FnOk Tryz.prog 161 [tsl rA2_Int s_,rF183.ty f_] [] (fun _ => []) (fun _ => tb r) := by
 unfold fslices_ContainsFunc_Twoint at h
 refine FnOk.enter Tryz.func161 rfl Tryz.ntmps161 (leb rfl) (fun M0 M w0 a hpl hst => ?_)
 replace hst : St M w0 9 [(0,tsl rA2_Int s_),(1,rF183.ty f_)] [] a w0 := hst
 refine sr mixed [] hst (fun _ => .o (op_assign .k) <| .n) fun n0 a w hst => ?_
 replace hst := hst.to [1,2] [_,_] [] rfl rfl
 obtain ⟨t7,ht7,h⟩ := bind_some h
 refine sr mixed [] hst (fun _ => .q 0 rfl <| .q 2 rfl <| .o (op_callF call177 (slices_IndexFunc_Twoint_ok ht7) (.cons (.of z1) <| .cons (.of z0) <| .nil)) <| .o (op_geq z0 .k) <| .o (op_assign z0) <| .n) fun n1 a w hst => ?_
 replace hst := hst.to [4] [_] [] rfl rfl
 refine wp_ret ?_
 obtain rfl := sj h
 exact ret_st undef [] hpl hst rfl (.tmp z0 .nil) rfl rfl rfl

/- diorama/schema.all[[2]int] -/
noncomputable def fschema_all_Twoint (l_ : (List A2_Int)) (right_ : (A2_Int → Option Bool)) : Option (Bool) := (fslices_ContainsFunc_Twoint l_ (fun x0 => fschema_all_Twointq1 x0 right_)).bind fun t7 => (some (!t7))
set_option maxRecDepth 100000 in
set_option maxHeartbeats 4000000 in
theorem schema_all_Twoint_ok {l_ : (List A2_Int)} {right_ : (A2_Int → Option Bool)} {r : Bool} (h : fschema_all_Twoint l_ right_ = some r) : FnOk Tryz.prog 131 [tsl rA2_Int l_,rF183.ty right_] [] (fun _ => []) (fun _ => tb r) := by
 unfold fschema_all_Twoint at h
 refine FnOk.enter Tryz.func131 rfl Tryz.ntmps131 (leb rfl) (fun M0 M w0 a hpl hst => ?_)
 replace hst : St M w0 9 [(0,tsl rA2_Int l_),(1,rF183.ty right_)] [] a w0 := hst
 refine sr mixed [] hst (fun _ => .o (op_boxR (R := rF183) (u := right_) z1) <| .o (op_assign .k) <| .n) fun n0 a w hst => ?_
 replace hst := hst.to [0,2] [_,_] [] rfl rfl
 obtain ⟨t7,ht7,h⟩ := bind_some h
 refine sr mixed [] hst (fun _ => .q 1 rfl <| .o (op_clo (.cons z1 <| .nil)) <| .o (op_callF call161 (slices_ContainsFunc_Twoint_ok ht7) (.cons (.of z1) <| .cons (.of (Fct.weak z0 (tfn_of call162 (fun _ _ hq => schema_all_Twointq1_ok hq)))) <| .nil)) <| .o (op_not z0) <| .o (op_assign z0) <| .n) fun n1 a w hst => ?_
 replace hst := hst.to [4] [_] [] rfl rfl
 refine wp_ret ?_
 obtain rfl := sj h
 exact ret_st undef [] hpl hst rfl (.tmp z0 .nil) rfl rfl rfl

/- diorama/schema.isLife -/
noncomputable def fschema_isLife (x_ : Sapi_Life) : Option (Bool) := (fschema_isName (x_).Name).bind fun t9 => (opt (t9 == true) (fschema_within ((x_).States.length : Int) (1:Int) (12:Int)) default).bind fun t12 => (opt ((t9 && t12) == true) (fschema_all_string (x_).States (fun x0 => fschema_isName x0)) default).bind fun t17 => (opt ((((t9 && t12) && t17) && (decide (((x_).Moves.length : Int) ≤ (32:Int)))) == true) (fschema_all_Twoint (x_).Moves (fun x0 => fschema_isLifeq1 x0 ((x_).States.length : Int))) default).bind fun t29 => (some ((((t9 && t12) && t17) && (decide (((x_).Moves.length : Int) ≤ (32:Int)))) && t29))
set_option maxRecDepth 100000 in
set_option maxHeartbeats 4000000 in
theorem schema_isLife_ok {x_ : Sapi_Life} {r : Bool} (h : fschema_isLife x_ = some r) : FnOk Tryz.prog 101 [rSapi_Life.ty x_] [] (fun _ => []) (fun _ => tb r) := by
 unfold fschema_isLife at h
 refine FnOk.enter Tryz.func101 rfl Tryz.ntmps101 (leb rfl) (fun M0 M w0 a hpl hst => ?_)
 replace hst : St M w0 31 [(0,rSapi_Life.ty x_)] [] a w0 := hst
 refine sr mixed [] hst (fun _ => .o (op_boxR (R := rSapi_Life) (u := x_) z0) <| .o (op_assign .k) <| .n) fun n0 a w hst => ?_
 replace hst := hst.to [0] [_] [] rfl rfl
 refine sr mixed [v1 3 (fun v0 => box (rI.cs (0:Int)) v0),v1 3 (fun v0 => box (rI.cs ((x_).States.length : Int)) v0)] hst (fun _ => .o (op_field fld81_1 z0) <| .o (op_loadT (R := (rSl rS)) (u := (x_).States) tok32 z0 rfl) <| .o (op_len ud32 z0) <| .m [] [0] rfl rfl rfl (op_alloc (R := rI) (a := (0:Int)) tok3 zok3) <| .e [] [0] [1] rfl rfl rfl rfl (op_storeB (R := rI) (a := ((x_).States.length : Int)) tok3 z0 z1 (leb rfl)) <| .n) fun n1 a w hst => ?_
 replace hst : St _ _ _ [_,_] [] _ _ := (((hst.pick [3,4]).shareB 0 rfl).add 0 rfl (fun _ _ _ h => h.2)).pick [0,3]
 obtain ⟨t9,ht9,h⟩ := bind_some h
 obtain ⟨t12,ht12,h⟩ := bind_some h
 obtain ⟨t17,ht17,h⟩ := bind_some h
 obtain ⟨t29,ht29,h⟩ := bind_some h
 refine sr mixed [] hst (fun _ => .o (op_field fld81_0 z1) <| .o (op_loadT (R := rS) (u := (x_).Name) tok9 z0 rfl) <| .o (op_callF call125 (schema_isName_ok ht9) (.cons (.of z0) <| .nil)) <| .q 0 rfl <| .g rfl rfl (.b 0 rfl) (fun _ => op_load tok3 z4) <| .g rfl rfl (.b 1 rfl) (fun hc => op_callF call97 (schema_within_ok (opt_t ht12 hc)) (.cons (.of (.cond z0 hc)) <| .cons (.of .k) <| .cons (.of .k) <| .nil)) <| .o (op_and z2 (fun hp => (.cond z0 (beqT hp)))) <| .q 0 rfl <| .g rfl rfl (.b 0 rfl) (fun _ => op_field fld81_1 z9) <| .g rfl rfl (.b 1 rfl) (fun hc => op_loadT (R := (rSl rS)) (u := (x_).States) tok32 (.cond z0 hc) rfl) <| .g rfl rfl (.b 2 rfl) (fun hc => op_callF call130 (schema_all_string_ok (opt_t ht17 hc)) (.cons (.of (.cond z0 hc)) <| .cons (.of (Fct.weak .fnE (tfn_of call125 (fun _ _ hq => schema_isName_ok hq)))) <| .nil)) <| .o (op_and z3 (fun hp => (.cond z0 (beqT hp)))) <| .q 0 rfl <| .g rfl rfl (.b 0 rfl) (fun _ => op_field fld81_2 z14) <| .g rfl rfl (.b 1 rfl) (fun hc => op_loadT (R := (rSl rA2_Int)) (u := (x_).Moves) tok79 (.cond z0 hc) rfl) <| .g rfl rfl (.b 2 rfl) (fun hc => op_len ud79 (.cond z0 hc)) <| .g rfl rfl (.b 3 rfl) (fun hc => op_leq (.cond z0 hc) .k) <| .o (op_and z4 (fun hp => (.cond z0 (beqT hp)))) <| .q 0 rfl <| .g rfl rfl (.b 0 rfl) (fun _ => op_field fld81_2 z20) <| .g rfl rfl (.b 1 rfl) (fun hc => op_loadT (R := (rSl rA2_Int)) (u := (x_).Moves) tok79 (.cond z0 hc) rfl) <| .g rfl rfl (.b 2 rfl) (fun _ => op_clo (.cons z21 <| .nil)) <| .g rfl rfl (.b 3 rfl) (fun hc => op_callF call131 (schema_all_Twoint_ok (opt_t ht29 hc)) (.cons (.of (.cond z1 hc)) <| .cons (.of (Fct.weak (.cond z0 hc) (tfn_of call132 (fun _ _ hq => schema_isLifeq1_ok hq)))) <| .nil)) <| .o (op_and z4 (fun hp => (.cond z0 (beqT hp)))) <| .o (op_assign z0) <| .n) fun n2 a w hst => ?_
 replace hst := hst.to [24] [_] [] rfl rfl
 refine wp_ret ?_
 obtain rfl := sj h
 exact ret_st undef [] hpl hst rfl (.tmp z0 .nil) rfl rfl rfl

/- diorama/schema.all[diorama/api.Rule]$1 -/
noncomputable def fschema_all_Ruleq1 (x_ : Sapi_Rule) (c0_ : (Sapi_Rule → Option Bool)) : Option (Bool) := (c0_ x_).bind fun t6 => (some (!t6))
set_option maxRecDepth 100000 in
set_option maxHeartbeats 4000000 in
theorem schema_all_Ruleq1_ok {x_ : Sapi_Rule} {c0_ : (Sapi_Rule → Option Bool)} {r : Bool} (h : fschema_all_Ruleq1 x_ c0_ = some r) : FnOk Tryz.prog 133 [rSapi_Rule.ty x_,tptr (rF163.cs c0_)] [] (fun _ => []) (fun _ => tb r) := by
 unfold fschema_all_Ruleq1 at h
 refine FnOk.enter Tryz.func133 rfl Tryz.ntmps133 (leb rfl) (fun M0 M w0 a hpl hst => ?_)
 replace hst : St M w0 8 [(0,rSapi_Rule.ty x_),(1,tptr (rF163.cs c0_))] [] a w0 := hst
 refine sr mixed [] hst (fun _ => .o (op_boxR (R := rSapi_Rule) (u := x_) z0) <| .o (op_assign .k) <| .n) fun n0 a w hst => ?_
 replace hst := hst.to [0,3] [_,_] [] rfl rfl
 obtain ⟨t6,ht6,h⟩ := bind_some h
 refine sr mixed [] hst (fun _ => .o (op_load tok163 z1) <| .o (op_load tok84 z1) <| .o (op_callT (u := x_) z1 (.cons (.of z0) <| .nil) ht6) <| .o (op_not z0) <| .o (op_assign z0) <| .n) fun n1 a w hst => ?_
 replace hst := hst.to [4] [_] [] rfl rfl
 refine wp_ret ?_
 obtain rfl := sj h
 exact ret_st undef [] hpl hst rfl (.tmp z0 .nil) rfl rfl rfl

/- slices.IndexFunc[[]diorama/api.Rule,diorama/api.Rule] -/
noncomputable def fslices_IndexFunc_Rule (s_ : (List Sapi_Rule)) (f_ : (Sapi_Rule → Option Bool)) : Option (Int) := (tailrec (fun (s4 : Int) => ((if (decide (s4 < (s_.length : Int))) = true then (idx s_ s4).bind fun t14 => (f_ t14).bind fun t16 => (if t16 = true then (some (.inr (.inr s4))) else (some (.inl (IntKind.i64.wrap (s4 + (1:Int)))))) else (some (.inr (.inl ())))) : Option ((Int) ⊕ ((Unit) ⊕ (Int))))) (0:Int)).bind fun (e5 : (Unit) ⊕ (Int)) => (match e5 with | .inl _ => (some (-1:Int)) | .inr p23 => (some p23))
set_option maxRecDepth 100000 in
set_option maxHeartbeats 4000000 in
theorem slices_IndexFunc_Rule_ok {s_ : (List Sapi_Rule)} {f_ : (Sapi_Rule → Option Bool)} {r : Int} (h : fslices_IndexFunc_Rule s_ f_ = some r) : FnOk Tryz.prog 139 [tsl rSapi_Rule s_,rF163.ty f_] [] (fun _ => []) (fun _ => ti r) := by
 unfold fslices_IndexFunc_Rule at h
 refine FnOk.enter Tryz.func139 rfl Tryz.ntmps139 (leb rfl) (fun M0 M w0 a hpl hst => ?_)
 replace hst : St M w0 19 [(0,tsl rSapi_Rule s_),(1,rF163.ty f_)] [] a w0 := hst
 refine sr mixed [] hst (fun _ => .o (op_assign .k) <| .n) fun n0 a w hst => ?_
 replace hst := hst.to [1,2] [_,_] [] rfl rfl
 refine wp_seq_k (fun K2 hK2 => ?_)
 refine sr mixed [] hst (fun _ => .q 0 rfl <| .o (op_len ud25 z0) <| .o (op_move .k) <| .n) fun n1 a w hst => ?_
 replace hst := hst.to [1,2,3,4] [_,_,_,_] [] rfl rfl
 obtain ⟨e5,he5,h⟩ := bind_some h
 have hJp22 : ∀ (p22 : Unit) a w,(.inl p22) = e5 → St M w0 19 [] [] a w → K2 a w := by
  intro p22 a w he hst
  subst he
  simp only at h
  refine hK2 _ _ ?_
  try clear hK2 K2
  refine sr mixed [] hst (fun _ => .o (op_assign .k) <| .n) fun n7 a w hst => ?_
  replace hst := hst.to [0] [_] [] rfl rfl
  refine wp_ret ?_
  obtain rfl := sj h
  exact ret_st undef [] hpl hst rfl (.tmp z0 .nil) rfl rfl rfl
 have hJp23 : ∀ (p23 : Int) a w,(.inr p23) = e5 → St M w0 19 [(4,ti p23)] [] a w → Ret Tryz.prog Tryz.f139 M0 [] w0 (fun _ => []) (fun _ => ti r) .ret a w := by
  intro p23 a w he hst
  subst he
  simp only at h
  obtain rfl := sj h
  exact ret_st undef [] hpl hst rfl (.tmp z0 .nil) rfl rfl rfl
 refine wp_block ?_
 refine wp_loopK _ (fun (s4 : Int) a w => St M w0 19 [(7,ti (s_.length : Int)),(8,ti s4),(0,tsl rSapi_Rule s_),(1,rF163.ty f_)] [] a w) _ _ he5 (hst.pick [0,1,2,3]) ?_
 clear h
 intro s4 o a w K25 hI h ho hK25
 have hst := hI
 clear hI
 refine sr mixed [] hst (fun _ => .o (op_lss z1 z0) <| .n) fun n2 a w hst => ?_
 replace hst := hst.to [0,1,2,3,4] [_,_,_,_,_] [] rfl rfl
 refine wp_seq_k (fun K27 hK27 => ?_)
 refine wt hst (fun b33 => ?_) (fun b33 => ?_)
 ·replace h := ite_t b33 h
  refine wp_skip ?_
  refine hK27 _ _ ?_
  try clear hK27 K27
  refine wp_seq_k (fun K28 hK28 => ?_)
  refine wp_block ?_
  refine sr mixed [] hst (fun _ => .q 2 rfl <| .o (op_assign z0) <| .n) fun n3 a w hst => ?_
  replace hst := hst.to [1,3,4,5,6] [_,_,_,_,_] [] rfl rfl
  obtain ⟨t14,ht14,h⟩ := bind_some h
  obtain ⟨t16,ht16,h⟩ := bind_some h
  refine sr mixed [] hst (fun _ => .q 4 rfl <| .q 4 rfl <| .q 2 rfl <| .o (op_index ud25 tok84 z1 z0 ht14) <| .o (op_load tok84 z0) <| .o (op_callT (u := t14) z4 (.cons (.of z0) <| .nil) ht16) <| .n) fun n4 a w hst => ?_
  replace hst := hst.to [5,6,7,8,9,10] [_,_,_,_,_,_] [] rfl rfl
  refine wt hst (fun b32 => ?_) (fun b32 => ?_)
  ·replace h := ite_t b32 h
   refine sr mixed [] hst (fun _ => .q 1 rfl <| .o (op_assign z0) <| .n) fun n5 a w hst => ?_
   replace hst := hst.to [1] [_] [] rfl rfl
   refine wp_ret ?_
   exact hJp23 _ _ _ (ho _ (sj h).symm) (hst.pick [0])
  ·replace h := ite_f b32 h
   refine wp_skip ?_
   refine hK28 _ _ ?_
   try clear hK28 K28
   refine wr mixed [] hst (fun _ => .o (op_add z3 .k) <| .q 0 rfl <| .n) fun n6 a w hst => ?_
   replace hst := hst.to [1,4,5,6] [_,_,_,_] [] rfl rfl
   exact hK25 _ _ _ (sj h).symm (hst.pick [1,0,2,3])
 ·replace h := ite_f b33 h
  refine wp_exit ?_
  exact hJp22 _ _ _ (ho _ (sj h).symm) (hst.pick [])

/- slices.ContainsFunc[[]diorama/api.Rule,diorama/api.Rule] -/
noncomputable def fslices_ContainsFunc_Rule (s_ : (List Sapi_Rule)) (f_ : (Sapi_Rule → Option Bool)) : Option (Bool) := (fslices_IndexFunc_Rule s_ f_).bind fun t7 => (some (decide (t7 ≥ (0:Int))))
set_option maxRecDepth 100000 in
set_option maxHeartbeats 4000000 in
theorem slices_ContainsFunc_Rule_ok {s_ : (List Sapi_Rule)} {f_ : (Sapi_Rule → Option Bool)} {r : Bool} (h : fslices_ContainsFunc_Rule s_ f_ = some r) : FnOk Tryz.prog 108 [tsl rSapi_Rule s_,rF163.ty f_] [] (fun _ => []) (fun _ => tb r) := by
 unfold fslices_ContainsFunc_Rule at h
 refine FnOk.enter Tryz.func108 rfl Tryz.ntmps108 (leb rfl) (fun M0 M w0 a hpl hst => ?_)
 replace hst : St M w0 9 [(0,tsl rSapi_Rule s_),(1,rF163.ty f_)] [] a w0 := hst
 refine sr mixed [] hst (fun _ => .o (op_assign .k) <| .n) fun n0 a w hst => ?_
 replace hst := hst.to [1,2] [_,_] [] rfl rfl
 obtain ⟨t7,ht7,h⟩ := bind_some h
 refine sr mixed [] hst (fun _ => .q 0 rfl <| .q 2 rfl <| .o (op_callF call139 (slices_IndexFunc_Rule_ok ht7) (.cons (.of z1) <| .cons (.of z0) <| .nil)) <| .o (op_geq z0 .k) <| .o (op_assign z0) <| .n) fun n1 a w hst => ?_
 replace hst := hst.to [4] [_] [] rfl rfl
 refine wp_ret ?_
 obtain rfl := sj h
 exact ret_st undef [] hpl hst rfl (.tmp z0 .nil) rfl rfl rfl

/- diorama/schema.all[diorama/api.Rule] -/
noncomputable def fschema_all_Rule (l_ : (List Sapi_Rule)) (right_ : (Sapi_Rule → Option Bool)) : Option (Bool) := (fslices_ContainsFunc_Rule l_ (fun x0 => fschema_all_Ruleq1 x0 right_)).bind fun t7 => (some (!t7))
set_option maxRecDepth 100000 in
set_option maxHeartbeats 4000000 in
theorem schema_all_Rule_ok {l_ : (List Sapi_Rule)} {right_ : (Sapi_Rule → Option Bool)} {r : Bool} (h : fschema_all_Rule l_ right_ = some r) : FnOk Tryz.prog 102 [tsl rSapi_Rule l_,rF163.ty right_] [] (fun _ => []) (fun _ => tb r) := by
 unfold fschema_all_Rule at h
 refine FnOk.enter Tryz.func102 rfl Tryz.ntmps102 (leb rfl) (fun M0 M w0 a hpl hst => ?_)
 replace hst : St M w0 9 [(0,tsl rSapi_Rule l_),(1,rF163.ty right_)] [] a w0 := hst
 refine sr mixed [] hst (fun _ => .o (op_boxR (R := rF163) (u := right_) z1) <| .o (op_assign .k) <| .n) fun n0 a w hst => ?_
 replace hst := hst.to [0,2] [_,_] [] rfl rfl
 obtain ⟨t7,ht7,h⟩ := bind_some h
 refine sr mixed [] hst (fun _ => .q 1 rfl <| .o (op_clo (.cons z1 <| .nil)) <| .o (op_callF call108 (slices_ContainsFunc_Rule_ok ht7) (.cons (.of z1) <| .cons (.of (Fct.weak z0 (tfn_of call133 (fun _ _ hq => schema_all_Ruleq1_ok hq)))) <| .nil)) <| .o (op_not z0) <| .o (op_assign z0) <| .n) fun n1 a w hst => ?_
 replace hst := hst.to [4] [_] [] rfl rfl
 refine wp_ret ?_
 obtain rfl := sj h
 exact ret_st undef [] hpl hst rfl (.tmp z0 .nil) rfl rfl rfl

/- diorama/schema.isRule -/
noncomputable def fschema_isRule (r_ : Sapi_Rule) : Option (Bool) := (fschema_isName (r_).Name).bind fun t5 => (opt (t5 == true) (fschema_isName (r_).Kind) default).bind fun t9 => (opt (((t5 && t9) == true) && (((r_).A == ([] : Str)) == false)) (fschema_isName (r_).A) default).bind fun t18 => (opt ((((t5 && t9) && (((r_).A == ([] : Str)) || t18)) == true) && (((r_).B == ([] : Str)) == false)) (fschema_isName (r_).B) default).bind fun t28 => (opt ((((t5 && t9) && (((r_).A == ([] : Str)) || t18)) && (((r_).B == ([] : Str)) || t28)) == true) (cat ((r_).A.length + (r_).B.length)) default).bind fun _ => (opt (((((t5 && t9) && (((r_).A == ([] : Str)) || t18)) && (((r_).B == ([] : Str)) || t28)) && (((r_).A ++ (r_).B) != ([] : Str))) == true) (fschema_within (r_).N (-1048576:Int) (1048576:Int)) default).bind fun t42 => (some (((((t5 && t9) && (((r_).A == ([] : Str)) || t18)) && (((r_).B == ([] : Str)) || t28)) && (((r_).A ++ (r_).B) != ([] : Str))) && t42))
set_option maxRecDepth 100000 in
set_option maxHeartbeats 4000000 in
theorem schema_isRule_ok {r_ : Sapi_Rule} {r : Bool} (h : fschema_isRule r_ = some r) : FnOk Tryz.prog 103 [rSapi_Rule.ty r_] [] (fun _ => []) (fun _ => tb r) := by
 unfold fschema_isRule at h
 refine FnOk.enter Tryz.func103 rfl Tryz.ntmps103 (leb rfl) (fun M0 M w0 a hpl hst => ?_)
 replace hst : St M w0 44 [(0,rSapi_Rule.ty r_)] [] a w0 := hst
 refine sr mixed [] hst (fun _ => .o (op_boxR (R := rSapi_Rule) (u := r_) z0) <| .o (op_assign .k) <| .n) fun n0 a w hst => ?_
 replace hst := hst.to [0] [_] [] rfl rfl
 refine wp_seq_k (fun K2 hK2 => ?_)
 obtain ⟨t5,ht5,h⟩ := bind_some h
 obtain ⟨t9,ht9,h⟩ := bind_some h
 obtain ⟨t18,ht18,h⟩ := bind_some h
 obtain ⟨t28,ht28,h⟩ := bind_some h
 obtain ⟨u36,hu36,h⟩ := bind_some h
 obtain ⟨t42,ht42,h⟩ := bind_some h
 refine wr mixed [] hst (fun _ => .o (op_field fld84_0 z0) <| .o (op_loadT (R := rS) (u := (r_).Name) tok9 z0 rfl) <| .o (op_callF call125 (schema_isName_ok ht5) (.cons (.of z0) <| .nil)) <| .q 0 rfl <| .g rfl rfl (.b 0 rfl) (fun _ => op_field fld84_1 z4) <| .g rfl rfl (.b 1 rfl) (fun hc => op_loadT (R := rS) (u := (r_).Kind) tok9 (.cond z0 hc) rfl) <| .g rfl rfl (.b 2 rfl) (fun hc => op_callF call125 (schema_isName_ok (opt_t ht9 hc)) (.cons (.of (.cond z0 hc)) <| .nil)) <| .o (op_and z3 (fun hp => (.cond z0 (beqT hp)))) <| .q 0 rfl <| .g rfl rfl (.b 0 rfl) (fun _ => op_field fld84_2 z9) <| .g rfl rfl (.b 1 rfl) (fun hc => op_loadT (R := rS) (u := (r_).A) tok9 (.cond z0 hc) rfl) <| .g rfl rfl (.b 2 rfl) (fun hc => op_eqlS (.cond z0 hc) .k) <| .g rfl rfl (.b 3 rfl) (fun hc => op_move (.cond z0 hc)) <| .g rfl rfl (.c 0 rfl) (fun _ => op_field fld84_2 z13) <| .g rfl rfl (.c 1 rfl) (fun hc => op_loadT (R := rS) (u := (r_).A) tok9 (.cond z0 hc) rfl) <| .g rfl rfl (.c 2 rfl) (fun hc => op_callF call125 (schema_isName_ok (opt_t ht18 hc)) (.cons (.of (.cond z0 hc)) <| .nil)) <| .g rfl rfl (.b 7 rfl) (fun hc => op_or (.cond z3 hc) (fun hp => (.cond z0 (band_mk hc (beqF hp))))) <| .o (op_and z8 (fun hp => (.cond z0 (beqT hp)))) <| .q 0 rfl <| .g rfl rfl (.b 0 rfl) (fun _ => op_field fld84_3 z19) <| .g rfl rfl (.b 1 rfl) (fun hc => op_loadT (R := rS) (u := (r_).B) tok9 (.cond z0 hc) rfl) <| .g rfl rfl (.b 2 rfl) (fun hc => op_eqlS (.cond z0 hc) .k) <| .g rfl rfl (.b 3 rfl) (fun hc => op_move (.cond z0 hc)) <| .g rfl rfl (.c 0 rfl) (fun _ => op_field fld84_3 z23) <| .g rfl rfl (.c 1 rfl) (fun hc => op_loadT (R := rS) (u := (r_).B) tok9 (.cond z0 hc) rfl) <| .g rfl rfl (.c 2 rfl) (fun hc => op_callF call125 (schema_isName_ok (opt_t ht28 hc)) (.cons (.of (.cond z0 hc)) <| .nil)) <| .g rfl rfl (.b 7 rfl) (fun hc => op_or (.cond z3 hc) (fun hp => (.cond z0 (band_mk hc (beqF hp))))) <| .o (op_and z8 (fun hp => (.cond z0 (beqT hp)))) <| .q 0 rfl <| .g rfl rfl (.b 0 rfl) (fun _ => op_field fld84_2 z29) <| .g rfl rfl (.b 1 rfl) (fun hc => op_loadT (R := rS) (u := (r_).A) tok9 (.cond z0 hc) rfl) <| .g rfl rfl (.b 2 rfl) (fun _ => op_field fld84_3 (.t 31 rfl)) <| .g rfl rfl (.b 3 rfl) (fun hc => op_loadT (R := rS) (u := (r_).B) tok9 (.cond z0 hc) rfl) <| .g rfl rfl (.b 4 rfl) (fun hc => op_addS (.cond z2 hc) (.cond z0 hc) (opt_t hu36 hc)) <| .g rfl rfl (.b 5 rfl) (fun hc => op_neqS (.cond z0 hc) .k) <| .o (op_and z6 (fun hp => (.cond z0 (beqT hp)))) <| .q 0 rfl <| .g rfl rfl (.b 0 rfl) (fun _ => op_field fld84_4 (.t 37 rfl)) <| .g rfl rfl (.b 1 rfl) (fun hc => op_loadT (R := rI) (u := (r_).N) tok3 (.cond z0 hc) rfl) <| .g rfl rfl (.b 2 rfl) (fun hc => op_callF call97 (schema_within_ok (opt_t ht42 hc)) (.cons (.of (.cond z0 hc)) <| .cons (.of .k) <| .cons (.of .k) <| .nil)) <| .o (op_and z3 (fun hp => (.cond z0 (beqT hp)))) <| .o (op_assign z0) <| .n) fun n1 a w hst => ?_
 replace hst := hst.to [41] [_] [] rfl rfl
 refine hK2 _ _ ?_
 try clear hK2 K2
 refine wp_ret ?_
 obtain rfl := sj h
 exact ret_st undef [] hpl hst rfl (.tmp z0 .nil) rfl rfl rfl

/- diorama/schema.line -/
noncomputable def fschema_line (word_ : Str) (l_ : (List AnyV)) : Option (Str) := (fBWriteString ([] : Str) word_).bind fun t11 => (tailrec (fun (s7 : Int × Str) => ((if (decide (s7.1 < (l_.length : Int))) = true then (idx l_ s7.1).bind fun t16 => (fBWriteByte s7.2 (32:Int)).bind fun t18 => ((if (t16).asInt.2 = true then (fItoa (t16).asInt.1).bind fun t24 => (fBWriteString t18 t24).bind fun t25 => (some t25) else ((if (t16).asStr.2 = true then (fBWriteString t18 (t16).asStr.1).bind fun t30 => (some t30) else (some t18))).bind fun (p90 : Str) => (some p90))).bind fun (p77 : Str) => (some (.inl ((IntKind.i64.wrap (s7.1 + (1:Int))),p77))) else (some (.inr s7.2))) : Option ((Int × Str) ⊕ ((Str))))) ((0:Int),t11)).bind fun (p66 : (Str)) => (fBString p66).bind fun t32 => (cat (t32.length + ([10] : Str).length)).bind fun _ => (some (t32 ++ ([10] : Str)))
set_option maxRecDepth 100000 in
set_option maxHeartbeats 4000000 in
theorem schema_line_ok {word_ : Str} {l_ : (List AnyV)} {r : Str} (h : fschema_line word_ l_ = some r) : FnOk Tryz.prog 135 [tv (.string (sB word_)),tsl (rAny 3 9) l_] [glo] (fun _ => []) (fun _ => tv (.string (sB r))) := by
 unfold fschema_line at h
 refine FnOk.enter Tryz.func135 rfl Tryz.ntmps135 (leb rfl) (fun M0 M w0 a hpl hst => ?_)
 replace hst : St M w0 34 [(0,tv (.string (sB word_))),(1,tsl (rAny 3 9) l_)] [glo] a w0 := hst
 refine sr mixed [] hst (fun _ => .o (op_assign .k) <| .n) fun n0 a w hst => ?_
 replace hst := hst.to [1,2] [_,_] [_] rfl rfl
 refine sr mixed [v1 0 (fun v0 => bld ([] : Str) v0 nilV)] hst (fun _ => .m [] [1] rfl rfl rfl (op_allocB bInfo) <| .n) fun n1 a w hst => ?_
 replace hst := hst.to [0,1,2] [_,_,_] [_,_] rfl rfl
 obtain ⟨t11,ht11,h⟩ := bind_some h
 refine sr mixed [v1 1 (fun v0 => bld t11 (n1 0) v0)] hst (fun _ => .q 1 rfl <| .e [] [1] [2] rfl rfl rfl rfl (op_callF call134 (BWriteString_ok ht11) (.cons (.of z1) <| .cons (.of z0) <| .nil)) <| .n) fun n2 a w hst => ?_
 replace hst := hst.to [2,4] [_,_] [_,_] rfl rfl
 refine wp_seq_k (fun K5 hK5 => ?_)
 refine sr mixed [] hst (fun _ => .q 1 rfl <| .o (op_len ud194 z0) <| .o (op_move .k) <| .n) fun n3 a w hst => ?_
 replace hst := hst.to [0,1,2,3] [_,_,_,_] [_,_] rfl rfl
 obtain ⟨e8,he8,h⟩ := bind_some h
 have hJp66 : ∀ (p66 : Str) (v67 : Value) a w,p66 = e8 → St M w0 34 [(5,tv (n1 0))] [glo,bld p66 (n1 0) v67] a w → K5 a w := by
  intro p66 v67 a w he hst
  subst he
  refine hK5 _ _ ?_
  try clear hK5 K5
  refine wp_seq_k (fun K68 hK68 => ?_)
  obtain ⟨t32,ht32,h⟩ := bind_some h
  obtain ⟨u33,hu33,h⟩ := bind_some h
  refine wr mixed [] hst (fun _ => .e [] [1] [] rfl rfl rfl rfl (op_callF call138 (BString_ok ht32) (.cons (.of z0) <| .nil)) <| .o (op_addS z0 .k hu33) <| .o (op_assign z0) <| .n) fun n15 a w hst => ?_
  replace hst := hst.to [2] [_] [_] rfl rfl
  refine hK68 _ _ ?_
  try clear hK68 K68
  refine wp_ret ?_
  obtain rfl := sj h
  exact ret_st undef [] hpl hst rfl (.tmp z0 .nil) rfl rfl rfl
 refine wp_block ?_
 refine wp_loopK _ (fun (s7 : Int × Str) a w => ∃ v37 : Value,St M w0 34 [(12,tsl (rAny 3 9) l_),(13,ti (l_.length : Int)),(14,ti s7.1),(5,tv (n1 0))] [glo,bld s7.2 (n1 0) v37] a w) _ _ he8 ⟨(n2 1),hst.pick [0,1,2,3]⟩ ?_
 clear h
 intro s7 o a w K69 hI h ho hK69
 obtain ⟨v37,hst⟩ := hI
 refine sr mixed [] hst (fun _ => .o (op_lss z2 z1) <| .n) fun n4 a w hst => ?_
 replace hst := hst.to [0,1,2,3,4] [_,_,_,_,_] [_,_] rfl rfl
 refine wp_seq_k (fun K71 hK71 => ?_)
 refine wt hst (fun b97 => ?_) (fun b97 => ?_)
 ·replace h := ite_t b97 h
  refine wp_skip ?_
  refine hK71 _ _ ?_
  try clear hK71 K71
  refine wp_seq_k (fun K72 hK72 => ?_)
  refine wp_block ?_
  obtain ⟨t16,ht16,h⟩ := bind_some h
  refine sr mixed [] hst (fun _ => .o (op_index ud194 tok20 z1 z3 ht16) <| .o (op_load tok20 z0) <| .o (op_assign z0) <| .n) fun n5 a w hst => ?_
  replace hst := hst.to [2,4,5,6,7] [_,_,_,_,_] [_,_] rfl rfl
  obtain ⟨t18,ht18,h⟩ := bind_some h
  refine sr mixed [v1 0 (fun v0 => bld t18 (n1 0) v0)] hst (fun _ => .e [] [1] [2] rfl rfl rfl rfl (op_callF call164 (BWriteByte_ok ht18) (.cons (.of z4) <| .cons (.of .k) <| .nil)) <| .n) fun n6 a w hst => ?_
  replace hst := hst.to [1,2,3,4,5] [_,_,_,_,_] [_,_] rfl rfl
  refine sr mixed [] hst (fun _ => .q 0 rfl <| .n) fun n7 a w hst => ?_
  replace hst := hst.to [0,2,3,4,5] [_,_,_,_,_] [_,_] rfl rfl
  refine wp_block ?_
  refine sr mixed [] hst (fun _ => .o (op_asI (by decide) tok3 ud3 z0) <| .o (op_extract z0 rfl) <| .o (op_extract z1 rfl) <| .n) fun n8 a w hst => ?_
  replace hst := hst.to [1,2,3,4,5,6,7] [_,_,_,_,_,_,_] [_,_] rfl rfl
  obtain ⟨p77,hp77,h⟩ := bind_some h
  have hJp77 : ∀ (v87 : Value) a w,St M w0 34 [(12,tsl (rAny 3 9) l_),(13,ti (l_.length : Int)),(14,ti s7.1),(5,tv (n1 0))] [glo,bld p77 (n1 0) v87] a w → K72 a w := by
   intro v87 a w hst
   refine hK72 _ _ ?_
   try clear hK72 K72
   refine wr mixed [] hst (fun _ => .o (op_add z2 .k) <| .q 0 rfl <| .n) fun n14 a w hst => ?_
   replace hst := hst.to [1,2,3,4] [_,_,_,_] [_,_] rfl rfl
   exact hK69 _ _ _ (sj h).symm ⟨v87,hst.pick [1,2,0,3]⟩
  replace h := hp77
  clear hp77
  refine wt hst (fun b96 => ?_) (fun b96 => ?_)
  ·replace h := ite_t b96 h
   refine sr mixed [] hst (fun _ => .o (op_assign z1) <| .n) fun n9 a w hst => ?_
   replace hst := hst.to [0,4,5,6,7] [_,_,_,_,_] [_,_] rfl rfl
   obtain ⟨t24,ht24,h⟩ := bind_some h
   obtain ⟨t25,ht25,h⟩ := bind_some h
   refine wr mixed [v1 2 (fun v0 => bld t25 (n1 0) v0)] hst (fun _ => .q 0 rfl <| .u [0] rfl rfl ((op_callF call165 (Itoa_ok ht24) (.cons (.of z0) <| .nil)).glo) <| .e [] [1] [2] rfl rfl rfl rfl (op_callF call134 (BWriteString_ok ht25) (.cons (.of z6) <| .cons (.of z0) <| .nil)) <| .n) fun n10 a w hst => ?_
   replace hst := hst.to [4,5,6,7] [_,_,_,_] [_,_] rfl rfl
   obtain rfl := sj h
   exact hJp77 (n10 2) _ _ (hst.pick [0,1,2,3])
  ·replace h := ite_f b96 h
   refine sr mixed [] hst (fun _ => .o (op_asS (by decide) tok9 ud9 z2) <| .o (op_extract z0 rfl) <| .o (op_extract z1 rfl) <| .n) fun n11 a w hst => ?_
   replace hst := hst.to [1,2,6,7,8,9] [_,_,_,_,_,_] [_,_] rfl rfl
   obtain ⟨p90,hp90,h⟩ := bind_some h
   have hJp90 : ∀ (v93 : Value) a w,St M w0 34 [(12,tsl (rAny 3 9) l_),(13,ti (l_.length : Int)),(14,ti s7.1),(5,tv (n1 0))] [glo,bld p90 (n1 0) v93] a w → K72 a w := by
    intro v93 a w hst
    obtain rfl := sj h
    exact hJp77 v93 _ _ (hst.pick [0,1,2,3])
   replace h := hp90
   clear hp90
   refine wt hst (fun b95 => ?_) (fun b95 => ?_)
   ·replace h := ite_t b95 h
    refine sr mixed [] hst (fun _ => .o (op_assign z1) <| .n) fun n12 a w hst => ?_
    replace hst := hst.to [0,3,4,5,6] [_,_,_,_,_] [_,_] rfl rfl
    obtain ⟨t30,ht30,h⟩ := bind_some h
    refine wr mixed [v1 1 (fun v0 => bld t30 (n1 0) v0)] hst (fun _ => .q 0 rfl <| .e [] [1] [2] rfl rfl rfl rfl (op_callF call134 (BWriteString_ok ht30) (.cons (.of z5) <| .cons (.of z0) <| .nil)) <| .n) fun n13 a w hst => ?_
    replace hst := hst.to [3,4,5,6] [_,_,_,_] [_,_] rfl rfl
    obtain rfl := sj h
    exact hJp90 (n13 1) _ _ (hst.pick [0,1,2,3])
   ·replace h := ite_f b95 h
    refine wp_skip ?_
    obtain rfl := sj h
    exact hJp90 (n6 0) _ _ (hst.pick [2,3,4,5])
 ·replace h := ite_f b97 h
  refine wp_exit ?_
  exact hJp66 _ v37 _ _ (ho _ (sj h).symm) (hst.pick [4])

/- cmp.Or[string] -/
noncomputable def fcmp_Or_string (vals_ : (List Str)) : Option (Str) := (tailrec (fun (s5 : Int) => ((if (decide (s5 < (vals_.length : Int))) = true then (idx vals_ s5).bind fun t10 => (if (t10 != ([] : Str)) = true then (some (.inr (.inr t10))) else (some (.inl (IntKind.i64.wrap (s5 + (1:Int)))))) else (some (.inr (.inl ())))) : Option ((Int) ⊕ ((Unit) ⊕ (Str))))) (0:Int)).bind fun (e6 : (Unit) ⊕ (Str)) => (match e6 with | .inl _ => (some ([] : Str)) | .inr p24 => (some p24))
set_option maxRecDepth 100000 in
set_option maxHeartbeats 4000000 in
theorem cmp_Or_string_ok {vals_ : (List Str)} {r : Str} (h : fcmp_Or_string vals_ = some r) : FnOk Tryz.prog 166 [tsl rS vals_] [] (fun _ => []) (fun _ => tv (.string (sB r))) := by
 unfold fcmp_Or_string at h
 refine FnOk.enter Tryz.func166 rfl Tryz.ntmps166 (leb rfl) (fun M0 M w0 a hpl hst => ?_)
 replace hst : St M w0 18 [(0,tsl rS vals_)] [] a w0 := hst
 refine sr mixed [] hst (fun _ => .o (op_assign .k) <| .n) fun n0 a w hst => ?_
 replace hst := hst.to [1] [_] [] rfl rfl
 refine sr mixed [] hst (fun _ => .o (op_assign .k) <| .n) fun n1 a w hst => ?_
 replace hst := hst.to [0,1] [_,_] [] rfl rfl
 refine wp_seq_k (fun K3 hK3 => ?_)
 refine sr mixed [] hst (fun _ => .q 1 rfl <| .o (op_len ud32 z0) <| .o (op_move .k) <| .n) fun n2 a w hst => ?_
 replace hst := hst.to [0,1,2,3] [_,_,_,_] [] rfl rfl
 obtain ⟨e6,he6,h⟩ := bind_some h
 have hJp23 : ∀ (p23 : Unit) a w,(.inl p23) = e6 → St M w0 18 [(3,tv (.string (sB ([] : Str))))] [] a w → K3 a w := by
  intro p23 a w he hst
  subst he
  simp only at h
  refine hK3 _ _ ?_
  try clear hK3 K3
  refine sr mixed [] hst (fun _ => .q 0 rfl <| .o (op_assign z0) <| .n) fun n8 a w hst => ?_
  replace hst := hst.to [1] [_] [] rfl rfl
  refine wp_ret ?_
  obtain rfl := sj h
  exact ret_st undef [] hpl hst rfl (.tmp z0 .nil) rfl rfl rfl
 have hJp24 : ∀ (p24 : Str) a w,(.inr p24) = e6 → St M w0 18 [(2,tv (.string (sB p24)))] [] a w → Ret Tryz.prog Tryz.f166 M0 [] w0 (fun _ => []) (fun _ => tv (.string (sB r))) .ret a w := by
  intro p24 a w he hst
  subst he
  simp only at h
  obtain rfl := sj h
  exact ret_st undef [] hpl hst rfl (.tmp z0 .nil) rfl rfl rfl
 refine wp_block ?_
 refine wp_loopK _ (fun (s5 : Int) a w => St M w0 18 [(6,tsl rS vals_),(7,ti (vals_.length : Int)),(8,ti s5),(3,tv (.string (sB ([] : Str))))] [] a w) _ _ he6 (hst.pick [0,1,2,3]) ?_
 clear h
 intro s5 o a w K26 hI h ho hK26
 have hst := hI
 clear hI
 refine sr mixed [] hst (fun _ => .o (op_lss z2 z1) <| .n) fun n3 a w hst => ?_
 replace hst := hst.to [0,1,2,3,4] [_,_,_,_,_] [] rfl rfl
 refine wp_seq_k (fun K28 hK28 => ?_)
 refine wt hst (fun b34 => ?_) (fun b34 => ?_)
 ·replace h := ite_t b34 h
  refine wp_skip ?_
  refine hK28 _ _ ?_
  try clear hK28 K28
  refine wp_seq_k (fun K29 hK29 => ?_)
  refine wp_block ?_
  obtain ⟨t10,ht10,h⟩ := bind_some h
  refine sr mixed [] hst (fun _ => .o (op_index ud32 tok9 z1 z3 ht10) <| .o (op_load tok9 z0) <| .o (op_assign z0) <| .n) fun n4 a w hst => ?_
  replace hst := hst.to [2,4,5,6,7] [_,_,_,_,_] [] rfl rfl
  refine sr mixed [] hst (fun _ => .q 0 rfl <| .q 5 rfl <| .o (op_neqS z1 z0) <| .n) fun n5 a w hst => ?_
  replace hst := hst.to [2,3,4,5,6,7] [_,_,_,_,_,_] [] rfl rfl
  refine wt hst (fun b33 => ?_) (fun b33 => ?_)
  ·replace h := ite_t b33 h
   refine sr mixed [] hst (fun _ => .q 1 rfl <| .o (op_assign z0) <| .n) fun n6 a w hst => ?_
   replace hst := hst.to [1] [_] [] rfl rfl
   refine wp_ret ?_
   exact hJp24 _ _ _ (ho _ (sj h).symm) (hst.pick [0])
  ·replace h := ite_f b33 h
   refine wp_skip ?_
   refine hK29 _ _ ?_
   try clear hK29 K29
   refine wr mixed [] hst (fun _ => .o (op_add z4 .k) <| .q 0 rfl <| .n) fun n7 a w hst => ?_
   replace hst := hst.to [1,4,5,6] [_,_,_,_] [] rfl rfl
   exact hK26 _ _ _ (sj h).symm (hst.pick [1,2,0,3])
 ·replace h := ite_f b34 h
  refine wp_exit ?_
  exact hJp23 _ _ _ (ho _ (sj h).symm) (hst.pick [4])

/- diorama/schema.named -/
noncomputable def fschema_named (s_ : Str) : Option (Str) := (fcmp_Or_string [s_,([45] : Str)]).bind fun t5 => (some t5)
set_option maxRecDepth 100000 in
set_option maxHeartbeats 4000000 in
theorem schema_named_ok {s_ : Str} {r : Str} (h : fschema_named s_ = some r) : FnOk Tryz.prog 137 [tv (.string (sB s_))] [] (fun _ => []) (fun _ => tv (.string (sB r))) := by
 unfold fschema_named at h
 refine FnOk.enter Tryz.func137 rfl Tryz.ntmps137 (leb rfl) (fun M0 M w0 a hpl hst => ?_)
 replace hst : St M w0 6 [(0,tv (.string (sB s_)))] [] a w0 := hst
 refine sr mixed [] hst (fun _ => .o (op_assign .k) <| .n) fun n0 a w hst => ?_
 replace hst := hst.to [1] [_] [] rfl rfl
 obtain ⟨t5,ht5,h⟩ := bind_some h
 refine sr mixed [] hst (fun _ => .q 0 rfl <| .o (op_buildSl (R := rS) (us := [s_,([45] : Str)]) ud32 tok9 (.cons z0 <| .cons .k <| .nil _) rfl (leb rfl)) <| .o (op_callF call166 (cmp_Or_string_ok ht5) (.cons (.of z0) <| .nil)) <| .o (op_assign z0) <| .n) fun n1 a w hst => ?_
 replace hst := hst.to [3] [_] [] rfl rfl
 refine wp_ret ?_
 obtain rfl := sj h
 exact ret_st undef [] hpl hst rfl (.tmp z0 .nil) rfl rfl rfl

end Go.Proofs.YtcdccjagknlmpaaGreatDoor
