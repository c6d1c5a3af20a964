/- Go functions as Lean functions, and the proofs that they compute them, written by a program. No condition. -/
import Derived.Test.YthdfmpocknmleaaGreatDoorGenF
namespace Go.Proofs.YthdfmpocknmleaaGreatDoor
open Go.Sim

/- diorama/dioramaref09.Uses -/
noncomputable def fref09_Uses (kind_ : Int) : Option (Bool × Bool × Bool × Bool × Bool) := (some (((((((kind_ == (1:Int)) || (kind_ == (4:Int))) || (kind_ == (5:Int))) || (kind_ == (6:Int))) || (kind_ == (7:Int))) || (kind_ == (8:Int))),((kind_ == (7:Int)) || (kind_ == (8:Int))),((((((kind_ == (1:Int)) || (kind_ == (2:Int))) || (kind_ == (4:Int))) || (kind_ == (5:Int))) || (kind_ == (7:Int))) || (kind_ == (0:Int))),(((((kind_ == (1:Int)) || (kind_ == (2:Int))) || (kind_ == (4:Int))) || (kind_ == (5:Int))) || (kind_ == (7:Int))),(kind_ == (3:Int))))
set_option maxRecDepth 100000 in
set_option maxHeartbeats 4000000 in
theorem ref09_Uses_ok {kind_ : Int} {r : Bool × Bool × Bool × Bool × Bool} (h : fref09_Uses kind_ = some r) : FnOk Tryz.prog 156 [ti kind_] [] (fun _ => []) (fun _ => ttup [tb r.1,tb r.2.1,tb r.2.2.1,tb r.2.2.2.1,tb r.2.2.2.2]) := by
 unfold fref09_Uses at h
 refine FnOk.enter Tryz.func156 rfl Tryz.ntmps156 (leb rfl) (fun M0 M w0 a hpl hst => ?_)
 replace hst : St M w0 66 [(0,ti kind_)] [] a w0 := hst
 refine sr mixed [] hst (fun _ => .o (op_assign .k) <| .o (op_assign .k) <| .o (op_assign .k) <| .o (op_assign .k) <| .o (op_assign .k) <| .n) fun n0 a w hst => ?_
 replace hst := hst.to [5] [_] [] rfl rfl
 refine sr mixed [] hst (fun _ => .q 0 rfl <| .o (op_eql z0 .k) <| .q 0 rfl <| .g rfl rfl (.b 0 rfl) (fun _ => op_move z3) <| .g rfl rfl (.b 1 rfl) (fun hc => op_eql (.cond z0 hc) .k) <| .o (op_or z2 (fun hp => (.cond z0 (beqF hp)))) <| .q 0 rfl <| .g rfl rfl (.b 0 rfl) (fun _ => op_move z7) <| .g rfl rfl (.b 1 rfl) (fun hc => op_eql (.cond z0 hc) .k) <| .o (op_or z2 (fun hp => (.cond z0 (beqF hp)))) <| .q 0 rfl <| .g rfl rfl (.b 0 rfl) (fun _ => op_move z11) <| .g rfl rfl (.b 1 rfl) (fun hc => op_eql (.cond z0 hc) .k) <| .o (op_or z2 (fun hp => (.cond z0 (beqF hp)))) <| .q 0 rfl <| .g rfl rfl (.b 0 rfl) (fun _ => op_move z15) <| .g rfl rfl (.b 1 rfl) (fun hc => op_eql (.cond z0 hc) .k) <| .o (op_or z2 (fun hp => (.cond z0 (beqF hp)))) <| .q 0 rfl <| .g rfl rfl (.b 0 rfl) (fun _ => op_move z19) <| .g rfl rfl (.b 1 rfl) (fun hc => op_eql (.cond z0 hc) .k) <| .o (op_or z2 (fun hp => (.cond z0 (beqF hp)))) <| .o (op_assign z0) <| .n) fun n1 a w hst => ?_
 replace hst := hst.to [22,23] [_,_] [] rfl rfl
 refine sr mixed [] hst (fun _ => .q 1 rfl <| .o (op_eql z0 .k) <| .q 0 rfl <| .g rfl rfl (.b 0 rfl) (fun _ => op_move z4) <| .g rfl rfl (.b 1 rfl) (fun hc => op_eql (.cond z0 hc) .k) <| .o (op_or z2 (fun hp => (.cond z0 (beqF hp)))) <| .o (op_assign z0) <| .n) fun n2 a w hst => ?_
 replace hst := hst.to [6,7,8] [_,_,_] [] rfl rfl
 refine sr mixed [] hst (fun _ => .q 2 rfl <| .o (op_eql z0 .k) <| .q 0 rfl <| .g rfl rfl (.b 0 rfl) (fun _ => op_move z5) <| .g rfl rfl (.b 1 rfl) (fun hc => op_eql (.cond z0 hc) .k) <| .o (op_or z2 (fun hp => (.cond z0 (beqF hp)))) <| .q 0 rfl <| .g rfl rfl (.b 0 rfl) (fun _ => op_move z9) <| .g rfl rfl (.b 1 rfl) (fun hc => op_eql (.cond z0 hc) .k) <| .o (op_or z2 (fun hp => (.cond z0 (beqF hp)))) <| .q 0 rfl <| .g rfl rfl (.b 0 rfl) (fun _ => op_move z13) <| .g rfl rfl (.b 1 rfl) (fun hc => op_eql (.cond z0 hc) .k) <| .o (op_or z2 (fun hp => (.cond z0 (beqF hp)))) <| .q 0 rfl <| .g rfl rfl (.b 0 rfl) (fun _ => op_move z17) <| .g rfl rfl (.b 1 rfl) (fun hc => op_eql (.cond z0 hc) .k) <| .o (op_or z2 (fun hp => (.cond z0 (beqF hp)))) <| .o (op_assign z0) <| .n) fun n3 a w hst => ?_
 replace hst := hst.to [18,19,20,21] [_,_,_,_] [] rfl rfl
 refine sr mixed [] hst (fun _ => .q 2 rfl <| .q 2 rfl <| .q 2 rfl <| .q 0 rfl <| .g rfl rfl (.b 0 rfl) (fun _ => op_move z7) <| .g rfl rfl (.b 1 rfl) (fun hc => op_eql (.cond z0 hc) .k) <| .o (op_or z2 (fun hp => (.cond z0 (beqF hp)))) <| .q 7 rfl <| .q 11 rfl <| .o (op_eql z0 .k) <| .o (op_assign z9) <| .o (op_assign z9) <| .o (op_assign z5) <| .o (op_assign z5) <| .o (op_assign z4) <| .n) fun n4 a w hst => ?_
 replace hst := hst.to [10,11,12,13,14] [_,_,_,_,_] [] rfl rfl
 refine wp_ret ?_
 obtain rfl := sj h
 exact ret_st undef [] hpl hst rfl (.tmp z0 (.tmp z1 (.tmp z2 (.tmp z3 (.tmp z4 .nil))))) rfl rfl rfl

/- diorama/dioramaref09.names -/
noncomputable def fref09_names (l_ : (List Str)) : Option (Bool) := (tailrec (fun (s4 : Int) => ((if (decide (s4 < (l_.length : Int))) = true then (idx l_ s4).bind fun t12 => (fref09_IsName t12).bind fun t14 => (if (!t14) = true then (some (.inr (.inr false))) else (some (.inl (IntKind.i64.wrap (s4 + (1:Int)))))) else (some (.inr (.inl ())))) : Option ((Int) ⊕ ((Unit) ⊕ (Bool))))) (0:Int)).bind fun (e5 : (Unit) ⊕ (Bool)) => (match e5 with | .inl _ => (some true) | .inr p21 => (some p21))
set_option maxRecDepth 100000 in
set_option maxHeartbeats 4000000 in
theorem ref09_names_ok {l_ : (List Str)} {r : Bool} (h : fref09_names l_ = some r) : FnOk Tryz.prog 128 [tsl rS l_] [] (fun _ => []) (fun _ => tb r) := by
 unfold fref09_names at h
 refine FnOk.enter Tryz.func128 rfl Tryz.ntmps128 (leb rfl) (fun M0 M w0 a hpl hst => ?_)
 replace hst : St M w0 16 [(0,tsl rS l_)] [] a w0 := hst
 refine sr mixed [] hst (fun _ => .o (op_assign .k) <| .n) fun n0 a w hst => ?_
 replace hst := hst.to [1] [_] [] rfl rfl
 refine wp_seq_k (fun K2 hK2 => ?_)
 refine sr mixed [] hst (fun _ => .o (op_assign .k) <| .n) fun n1 a w hst => ?_
 replace hst := hst.to [0,1] [_,_] [] rfl rfl
 obtain ⟨e5,he5,h⟩ := bind_some h
 have hJp20 : ∀ (p20 : Unit) a w,(.inl p20) = e5 → St M w0 16 [] [] a w → K2 a w := by
  intro p20 a w he hst
  subst he
  simp only at h
  refine hK2 _ _ ?_
  try clear hK2 K2
  refine sr mixed [] hst (fun _ => .o (op_assign .k) <| .n) fun n6 a w hst => ?_
  replace hst := hst.to [0] [_] [] rfl rfl
  refine wp_ret ?_
  obtain rfl := sj h
  exact ret_st undef [] hpl hst rfl (.tmp z0 .nil) rfl rfl rfl
 have hJp21 : ∀ (p21 : Bool) a w,(.inr p21) = e5 → St M w0 16 [(2,tb p21)] [] a w → Ret Tryz.prog Tryz.f128 M0 [] w0 (fun _ => []) (fun _ => tb r) .ret a w := by
  intro p21 a w he hst
  subst he
  simp only at h
  obtain rfl := sj h
  exact ret_st undef [] hpl hst rfl (.tmp z0 .nil) rfl rfl rfl
 refine wp_block ?_
 refine wp_loopK _ (fun (s4 : Int) a w => St M w0 16 [(3,ti s4),(0,tsl rS l_)] [] a w) _ _ he5 (hst.pick [0,1]) ?_
 clear h
 intro s4 o a w K23 hI h ho hK23
 have hst := hI
 clear hI
 refine wp_seq_k (fun K24 hK24 => ?_)
 refine sr mixed [] hst (fun _ => .q 0 rfl <| .q 2 rfl <| .o (op_len ud38 z0) <| .o (op_lss z2 z0) <| .n) fun n2 a w hst => ?_
 replace hst := hst.to [3,4,5] [_,_,_] [] rfl rfl
 refine wt hst (fun b30 => ?_) (fun b30 => ?_)
 ·replace h := ite_t b30 h
  refine wp_skip ?_
  refine hK24 _ _ ?_
  try clear hK24 K24
  refine wp_seq_k (fun K26 hK26 => ?_)
  refine wp_block ?_
  obtain ⟨t12,ht12,h⟩ := bind_some h
  obtain ⟨t14,ht14,h⟩ := bind_some h
  refine sr mixed [] hst (fun _ => .q 2 rfl <| .q 2 rfl <| .o (op_index ud38 tok9 z1 z0 ht12) <| .o (op_load tok9 z0) <| .o (op_callF call125 (ref09_IsName_ok ht14) (.cons (.of z0) <| .nil)) <| .o (op_not z0) <| .n) fun n4 a w hst => ?_
  replace hst := hst.to [5,7,8] [_,_,_] [] rfl rfl
  refine wt hst (fun b29 => ?_) (fun b29 => ?_)
  ·replace h := ite_t b29 h
   refine sr mixed [] hst (fun _ => .o (op_assign .k) <| .n) fun n5 a w hst => ?_
   replace hst := hst.to [0] [_] [] rfl rfl
   refine wp_ret ?_
   exact hJp21 _ _ _ (ho _ (sj h).symm) (hst.pick [0])
  ·replace h := ite_f b29 h
   refine wp_skip ?_
   refine hK26 _ _ ?_
   try clear hK26 K26
   refine wr mixed [] hst (fun _ => .q 1 rfl <| .o (op_add z0 .k) <| .o (op_assign z0) <| .n) fun n3 a w hst => ?_
   replace hst := hst.to [2,4] [_,_] [] rfl rfl
   exact hK23 _ _ _ (sj h).symm (hst.pick [0,1])
 ·replace h := ite_f b30 h
  refine wp_exit ?_
  exact hJp20 _ _ _ (ho _ (sj h).symm) (hst.pick [])

/- diorama/dioramaref09.isPick -/
noncomputable def fref09_isPick (f_ : Sapi_Field) : Option (Bool) := (tailrec (fun (s5 : Int × Int) => ((if (decide (s5.1 < ((f_).Weights.length : Int))) = true then (idx (f_).Weights s5.1).bind fun t15 => (fref09_within t15 (0:Int) (1048576:Int)).bind fun t17 => (if (!t17) = true then (some (.inr (.inr false))) else (idx (f_).Weights s5.1).bind fun t23 => (some (.inl ((IntKind.i64.wrap (s5.1 + (1:Int))),(IntKind.i64.wrap (s5.2 + t23)))))) else (some (.inr (.inl s5.2)))) : Option ((Int × Int) ⊕ ((Int) ⊕ (Bool))))) ((0:Int),(0:Int))).bind fun (e6 : (Int) ⊕ (Bool)) => (match e6 with | .inl p23 => (fref09_within ((f_).Words.length : Int) (1:Int) (12:Int)).bind fun t29 => (opt (((t29 && (((f_).Words.length : Int) == ((f_).Weights.length : Int))) && (decide (p23 > (0:Int)))) == true) (fref09_names (f_).Words) default).bind fun t46 => (some (((t29 && (((f_).Words.length : Int) == ((f_).Weights.length : Int))) && (decide (p23 > (0:Int)))) && t46)) | .inr p24 => (some p24))
set_option maxRecDepth 100000 in
set_option maxHeartbeats 4000000 in
theorem ref09_isPick_ok {f_ : Sapi_Field} {r : Bool} (h : fref09_isPick f_ = some r) : FnOk Tryz.prog 157 [rSapi_Field.ty f_] [] (fun _ => []) (fun _ => tb r) := by
 unfold fref09_isPick at h
 refine FnOk.enter Tryz.func157 rfl Tryz.ntmps157 (leb rfl) (fun M0 M w0 a hpl hst => ?_)
 replace hst : St M w0 48 [(0,rSapi_Field.ty f_)] [] a w0 := hst
 refine sr mixed [] hst (fun _ => .o (op_boxR (R := rSapi_Field) (u := f_) z0) <| .o (op_assign .k) <| .n) fun n0 a w hst => ?_
 replace hst := hst.to [0] [_] [] rfl rfl
 refine sr mixed [] hst (fun _ => .o (op_assign .k) <| .n) fun n1 a w hst => ?_
 replace hst := hst.to [0,1] [_,_] [] rfl rfl
 refine wp_seq_k (fun K3 hK3 => ?_)
 refine sr mixed [] hst (fun _ => .o (op_assign .k) <| .n) fun n2 a w hst => ?_
 replace hst := hst.to [0,1,2] [_,_,_] [] rfl rfl
 obtain ⟨e6,he6,h⟩ := bind_some h
 have hJp23 : ∀ (p23 : Int) a w,(.inl p23) = e6 → St M w0 48 [(3,ti p23),(1,tptr (rSapi_Field.cs f_))] [] a w → K3 a w := by
  intro p23 a w he hst
  subst he
  simp only at h
  refine hK3 _ _ ?_
  try clear hK3 K3
  obtain ⟨t29,ht29,h⟩ := bind_some h
  obtain ⟨t46,ht46,h⟩ := bind_some h
  refine sr mixed [] hst (fun _ => .o (op_field fld44_6 z1) <| .o (op_loadT (R := (rSl rS)) (u := (f_).Words) tok38 z0 rfl) <| .o (op_len ud38 z0) <| .o (op_callF call89 (ref09_within_ok ht29) (.cons (.of z0) <| .cons (.of .k) <| .cons (.of .k) <| .nil)) <| .q 0 rfl <| .g rfl rfl (.b 0 rfl) (fun _ => op_field fld44_6 z6) <| .g rfl rfl (.b 1 rfl) (fun hc => op_loadT (R := (rSl rS)) (u := (f_).Words) tok38 (.cond z0 hc) rfl) <| .g rfl rfl (.b 2 rfl) (fun hc => op_len ud38 (.cond z0 hc)) <| .g rfl rfl (.b 3 rfl) (fun _ => op_field fld44_7 z9) <| .g rfl rfl (.b 4 rfl) (fun hc => op_loadT (R := (rSl rI)) (u := (f_).Weights) tok22 (.cond z0 hc) rfl) <| .g rfl rfl (.b 5 rfl) (fun hc => op_len ud22 (.cond z0 hc)) <| .g rfl rfl (.b 6 rfl) (fun hc => op_eql (.cond z3 hc) (.cond z0 hc)) <| .o (op_and z7 (fun hp => (.cond z0 (beqT hp)))) <| .q 0 rfl <| .g rfl rfl (.b 0 rfl) (fun _ => op_move z14) <| .g rfl rfl (.b 1 rfl) (fun hc => op_gtr (.cond z0 hc) .k) <| .o (op_and z2 (fun hp => (.cond z0 (beqT hp)))) <| .q 0 rfl <| .g rfl rfl (.b 0 rfl) (fun _ => op_field fld44_6 z19) <| .g rfl rfl (.b 1 rfl) (fun hc => op_loadT (R := (rSl rS)) (u := (f_).Words) tok38 (.cond z0 hc) rfl) <| .g rfl rfl (.b 2 rfl) (fun hc => op_callF call128 (ref09_names_ok (opt_t ht46 hc)) (.cons (.of (.cond z0 hc)) <| .nil)) <| .o (op_and z3 (fun hp => (.cond z0 (beqT hp)))) <| .o (op_assign z0) <| .n) fun n8 a w hst => ?_
  replace hst := hst.to [22] [_] [] rfl rfl
  refine wp_ret ?_
  obtain rfl := sj h
  exact ret_st undef [] hpl hst rfl (.tmp z0 .nil) rfl rfl rfl
 have hJp24 : ∀ (p24 : Bool) a w,(.inr p24) = e6 → St M w0 48 [(2,tb p24)] [] a w → Ret Tryz.prog Tryz.f157 M0 [] w0 (fun _ => []) (fun _ => tb r) .ret a w := by
  intro p24 a w he hst
  subst he
  simp only at h
  obtain rfl := sj h
  exact ret_st undef [] hpl hst rfl (.tmp z0 .nil) rfl rfl rfl
 refine wp_block ?_
 refine wp_loopK _ (fun (s5 : Int × Int) a w => St M w0 48 [(4,ti s5.1),(3,ti s5.2),(1,tptr (rSapi_Field.cs f_))] [] a w) _ _ he6 (hst.pick [0,1,2]) ?_
 clear h
 intro s5 o a w K26 hI h ho hK26
 have hst := hI
 clear hI
 refine wp_seq_k (fun K27 hK27 => ?_)
 refine sr mixed [] hst (fun _ => .q 0 rfl <| .o (op_field fld44_7 z3) <| .o (op_loadT (R := (rSl rI)) (u := (f_).Weights) tok22 z0 rfl) <| .o (op_len ud22 z0) <| .o (op_lss z3 z0) <| .n) fun n3 a w hst => ?_
 replace hst := hst.to [4,5,6,7] [_,_,_,_] [] rfl rfl
 refine wt hst (fun b34 => ?_) (fun b34 => ?_)
 ·replace h := ite_t b34 h
  refine wp_skip ?_
  refine hK27 _ _ ?_
  try clear hK27 K27
  refine wp_seq_k (fun K29 hK29 => ?_)
  refine wp_block ?_
  refine wp_seq_k (fun K30 hK30 => ?_)
  obtain ⟨t15,ht15,h⟩ := bind_some h
  obtain ⟨t17,ht17,h⟩ := bind_some h
  refine sr mixed [] hst (fun _ => .o (op_field fld44_7 z3) <| .o (op_loadT (R := (rSl rI)) (u := (f_).Weights) tok22 z0 rfl) <| .q 3 rfl <| .o (op_index ud22 tok3 z1 z0 ht15) <| .o (op_load tok3 z0) <| .o (op_callF call89 (ref09_within_ok ht17) (.cons (.of z0) <| .cons (.of .k) <| .cons (.of .k) <| .nil)) <| .o (op_not z0) <| .n) fun n5 a w hst => ?_
  replace hst := hst.to [6,8,9,10] [_,_,_,_] [] rfl rfl
  refine wt hst (fun b33 => ?_) (fun b33 => ?_)
  ·replace h := ite_t b33 h
   refine sr mixed [] hst (fun _ => .o (op_assign .k) <| .n) fun n6 a w hst => ?_
   replace hst := hst.to [0] [_] [] rfl rfl
   refine wp_ret ?_
   exact hJp24 _ _ _ (ho _ (sj h).symm) (hst.pick [0])
  ·replace h := ite_f b33 h
   refine wp_skip ?_
   refine hK30 _ _ ?_
   try clear hK30 K30
   obtain ⟨t23,ht23,h⟩ := bind_some h
   refine wr mixed [] hst (fun _ => .q 2 rfl <| .o (op_field fld44_7 z4) <| .o (op_loadT (R := (rSl rI)) (u := (f_).Weights) tok22 z0 rfl) <| .q 4 rfl <| .o (op_index ud22 tok3 z1 z0 ht23) <| .o (op_load tok3 z0) <| .o (op_add z5 z0) <| .o (op_assign z0) <| .n) fun n7 a w hst => ?_
   replace hst := hst.to [7,9,10] [_,_,_] [] rfl rfl
   refine hK29 _ _ ?_
   try clear hK29 K29
   refine wr mixed [] hst (fun _ => .q 1 rfl <| .o (op_add z0 .k) <| .o (op_assign z0) <| .n) fun n4 a w hst => ?_
   replace hst := hst.to [2,3,4] [_,_,_] [] rfl rfl
   exact hK26 _ _ _ (sj h).symm (hst.pick [0,1,2])
 ·replace h := ite_f b34 h
  refine wp_exit ?_
  exact hJp23 _ _ _ (ho _ (sj h).symm) (hst.pick [2,3])

/- diorama/dioramaref09.isField -/
noncomputable def fref09_isField (f_ : Sapi_Field) : Option (Bool) := (fref09_Uses (f_).Kind).bind fun t11 => (opt (((decide ((f_).Kind < (0:Int))) || (decide ((f_).Kind ≥ (9:Int)))) == false) (fref09_IsName (f_).Name) default).bind fun t28 => (if ((((((((decide ((f_).Kind < (0:Int))) || (decide ((f_).Kind ≥ (9:Int)))) || (!t28)) || ((!t11.1) && ((f_).Of != ([] : Str)))) || ((!t11.2.1) && ((f_).Up != ([] : Str)))) || ((!t11.2.2.1) && ((f_).Lo != (0:Int)))) || ((!t11.2.2.2.1) && ((f_).Hi != (0:Int)))) || ((!t11.2.2.2.2) && (decide ((IntKind.i64.wrap (((f_).Words.length : Int) + ((f_).Weights.length : Int))) > (0:Int))))) = true then (some false) else (opt (t11.1 == true) (fref09_IsName (f_).Of) default).bind fun t85 => (opt ((((t11.1 && (!t85)) && (((f_).Kind != (4:Int)) || ((f_).Of != ([] : Str)))) == false) && (t11.2.1 == true)) (fref09_IsName (f_).Up) default).bind fun t103 => (if (((t11.1 && (!t85)) && (((f_).Kind != (4:Int)) || ((f_).Of != ([] : Str)))) || (t11.2.1 && (!t103))) = true then (some false) else (if ((f_).Kind == (0:Int)) = true then (fref09_within (f_).Lo (-1048576:Int) (1048576:Int)).bind fun t113 => (some t113) else (if ((f_).Kind == (1:Int)) = true then (fref09_span (f_).Lo (f_).Hi (0:Int) (65536:Int)).bind fun t120 => (some t120) else (if ((f_).Kind == (2:Int)) = true then (fref09_span (f_).Lo (f_).Hi (-1048576:Int) (1048576:Int)).bind fun t127 => (some t127) else (if ((f_).Kind == (4:Int)) = true then (fref09_span (f_).Lo (f_).Hi (-1048576:Int) (1048576:Int)).bind fun t134 => (some t134) else (if ((f_).Kind == (5:Int)) = true then (fref09_span (f_).Lo (f_).Hi (0:Int) (32:Int)).bind fun t141 => (some t141) else (if ((f_).Kind == (7:Int)) = true then (fref09_span (f_).Lo (f_).Hi (0:Int) (1048576:Int)).bind fun t148 => (some t148) else (if ((f_).Kind == (3:Int)) = true then (fref09_isPick f_).bind fun t152 => (some t152) else (some true))))))))))
set_option maxRecDepth 100000 in
set_option maxHeartbeats 4000000 in
theorem ref09_isField_ok {f_ : Sapi_Field} {r : Bool} (h : fref09_isField f_ = some r) : FnOk Tryz.prog 127 [rSapi_Field.ty f_] [] (fun _ => []) (fun _ => tb r) := by
 unfold fref09_isField at h
 refine FnOk.enter Tryz.func127 rfl Tryz.ntmps127 (leb rfl) (fun M0 M w0 a hpl hst => ?_)
 replace hst : St M w0 153 [(0,rSapi_Field.ty f_)] [] a w0 := hst
 refine sr mixed [] hst (fun _ => .o (op_boxR (R := rSapi_Field) (u := f_) z0) <| .o (op_assign .k) <| .n) fun n0 a w hst => ?_
 replace hst := hst.to [0] [_] [] rfl rfl
 obtain ⟨t11,ht11,h⟩ := bind_some h
 refine sr mixed [] hst (fun _ => .o (op_field fld44_3 z0) <| .o (op_loadT (R := rI) (u := (f_).Kind) tok3 z0 rfl) <| .o (op_callF call156 (ref09_Uses_ok ht11) (.cons (.of z0) <| .nil)) <| .q 0 rfl <| .o (op_extract z0 rfl) <| .o (op_extract z1 rfl) <| .o (op_extract z2 rfl) <| .o (op_extract z3 rfl) <| .o (op_extract z4 rfl) <| .o (op_assign z4) <| .o (op_assign z4) <| .o (op_assign z4) <| .o (op_assign z4) <| .o (op_assign z4) <| .n) fun n1 a w hst => ?_
 replace hst := hst.to [9,10,11,12,13,14] [_,_,_,_,_,_] [] rfl rfl
 refine wp_seq_k (fun K3 hK3 => ?_)
 obtain ⟨t28,ht28,h⟩ := bind_some h
 refine sr mixed [] hst (fun _ => .o (op_field fld44_3 z5) <| .o (op_loadT (R := rI) (u := (f_).Kind) tok3 z0 rfl) <| .o (op_lss z0 .k) <| .q 0 rfl <| .g rfl rfl (.b 0 rfl) (fun _ => op_field fld44_3 z9) <| .g rfl rfl (.b 1 rfl) (fun hc => op_loadT (R := rI) (u := (f_).Kind) tok3 (.cond z0 hc) rfl) <| .g rfl rfl (.b 2 rfl) (fun hc => op_geq (.cond z0 hc) .k) <| .o (op_or z3 (fun hp => (.cond z0 (beqF hp)))) <| .q 0 rfl <| .g rfl rfl (.b 0 rfl) (fun _ => op_field fld44_0 z14) <| .g rfl rfl (.b 1 rfl) (fun hc => op_loadT (R := rS) (u := (f_).Name) tok9 (.cond z0 hc) rfl) <| .g rfl rfl (.b 2 rfl) (fun hc => op_callF call125 (ref09_IsName_ok (opt_t ht28 hc)) (.cons (.of (.cond z0 hc)) <| .nil)) <| .g rfl rfl (.b 3 rfl) (fun hc => op_not (.cond z0 hc)) <| .o (op_or z4 (fun hp => (.cond z0 (beqF hp)))) <| .q 0 rfl <| .g rfl rfl (.b 0 rfl) (fun _ => op_move z15) <| .g rfl rfl (.b 1 rfl) (fun hc => op_not (.cond z0 hc)) <| .g rfl rfl (.b 2 rfl) (fun hc => op_move (.cond z0 hc)) <| .g rfl rfl (.c 0 rfl) (fun _ => op_field fld44_1 z23) <| .g rfl rfl (.c 1 rfl) (fun hc => op_loadT (R := rS) (u := (f_).Of) tok9 (.cond z0 hc) rfl) <| .g rfl rfl (.c 2 rfl) (fun hc => op_neqS (.cond z0 hc) .k) <| .g rfl rfl (.b 6 rfl) (fun hc => op_and (.cond z3 hc) (fun hp => (.cond z0 (band_mk hc (beqT hp))))) <| .o (op_or z7 (fun hp => (.cond z0 (beqF hp)))) <| .q 0 rfl <| .g rfl rfl (.b 0 rfl) (fun _ => op_move z25) <| .g rfl rfl (.b 1 rfl) (fun hc => op_not (.cond z0 hc)) <| .g rfl rfl (.b 2 rfl) (fun hc => op_move (.cond z0 hc)) <| .g rfl rfl (.c 0 rfl) (fun _ => op_field fld44_2 (.t 32 rfl)) <| .g rfl rfl (.c 1 rfl) (fun hc => op_loadT (R := rS) (u := (f_).Up) tok9 (.cond z0 hc) rfl) <| .g rfl rfl (.c 2 rfl) (fun hc => op_neqS (.cond z0 hc) .k) <| .g rfl rfl (.b 6 rfl) (fun hc => op_and (.cond z3 hc) (fun hp => (.cond z0 (band_mk hc (beqT hp))))) <| .o (op_or z7 (fun hp => (.cond z0 (beqF hp)))) <| .q 0 rfl <| .g rfl rfl (.b 0 rfl) (fun _ => op_move (.t 35 rfl)) <| .g rfl rfl (.b 1 rfl) (fun hc => op_not (.cond z0 hc)) <| .g rfl rfl (.b 2 rfl) (fun hc => op_move (.cond z0 hc)) <| .g rfl rfl (.c 0 rfl) (fun _ => op_field fld44_4 (.t 41 rfl)) <| .g rfl rfl (.c 1 rfl) (fun hc => op_loadT (R := rI) (u := (f_).Lo) tok3 (.cond z0 hc) rfl) <| .g rfl rfl (.c 2 rfl) (fun hc => op_neq (.cond z0 hc) .k) <| .g rfl rfl (.b 6 rfl) (fun hc => op_and (.cond z3 hc) (fun hp => (.cond z0 (band_mk hc (beqT hp))))) <| .o (op_or z7 (fun hp => (.cond z0 (beqF hp)))) <| .q 0 rfl <| .g rfl rfl (.b 0 rfl) (fun _ => op_move (.t 45 rfl)) <| .g rfl rfl (.b 1 rfl) (fun hc => op_not (.cond z0 hc)) <| .g rfl rfl (.b 2 rfl) (fun hc => op_move (.cond z0 hc)) <| .g rfl rfl (.c 0 rfl) (fun _ => op_field fld44_5 (.t 50 rfl)) <| .g rfl rfl (.c 1 rfl) (fun hc => op_loadT (R := rI) (u := (f_).Hi) tok3 (.cond z0 hc) rfl) <| .g rfl rfl (.c 2 rfl) (fun hc => op_neq (.cond z0 hc) .k) <| .g rfl rfl (.b 6 rfl) (fun hc => op_and (.cond z3 hc) (fun hp => (.cond z0 (band_mk hc (beqT hp))))) <| .o (op_or z7 (fun hp => (.cond z0 (beqF hp)))) <| .q 0 rfl <| .g rfl rfl (.b 0 rfl) (fun _ => op_move (.t 55 rfl)) <| .g rfl rfl (.b 1 rfl) (fun hc => op_not (.cond z0 hc)) <| .g rfl rfl (.b 2 rfl) (fun hc => op_move (.cond z0 hc)) <| .g rfl rfl (.c 0 rfl) (fun _ => op_field fld44_6 (.t 59 rfl)) <| .g rfl rfl (.c 1 rfl) (fun hc => op_loadT (R := (rSl rS)) (u := (f_).Words) tok38 (.cond z0 hc) rfl) <| .g rfl rfl (.c 2 rfl) (fun hc => op_len ud38 (.cond z0 hc)) <| .g rfl rfl (.c 3 rfl) (fun _ => op_field fld44_7 (.t 62 rfl)) <| .g rfl rfl (.c 4 rfl) (fun hc => op_loadT (R := (rSl rI)) (u := (f_).Weights) tok22 (.cond z0 hc) rfl) <| .g rfl rfl (.c 5 rfl) (fun hc => op_len ud22 (.cond z0 hc)) <| .g rfl rfl (.c 6 rfl) (fun hc => op_add (.cond z3 hc) (.cond z0 hc)) <| .g rfl rfl (.c 7 rfl) (fun hc => op_gtr (.cond z0 hc) .k) <| .g rfl rfl (.b 11 rfl) (fun hc => op_and (.cond z8 hc) (fun hp => (.cond z0 (band_mk hc (beqT hp))))) <| .o (op_or z12 (fun hp => (.cond z0 (beqF hp)))) <| .n) fun n2 a w hst => ?_
 replace hst := hst.to [63,64,65,69] [_,_,_,_] [] rfl rfl
 refine wt hst (fun b34 => ?_) (fun b34 => ?_)
 ·replace h := ite_t b34 h
  refine sr mixed [] hst (fun _ => .o (op_assign .k) <| .n) fun n3 a w hst => ?_
  replace hst := hst.to [0] [_] [] rfl rfl
  refine wp_ret ?_
  obtain rfl := sj h
  exact ret_st undef [] hpl hst rfl (.tmp z0 .nil) rfl rfl rfl
 ·replace h := ite_f b34 h
  refine wp_skip ?_
  refine hK3 _ _ ?_
  try clear hK3 K3
  refine wp_seq_k (fun K6 hK6 => ?_)
  obtain ⟨t85,ht85,h⟩ := bind_some h
  obtain ⟨t103,ht103,h⟩ := bind_some h
  refine sr mixed [] hst (fun _ => .q 1 rfl <| .q 0 rfl <| .g rfl rfl (.b 0 rfl) (fun _ => op_field fld44_1 z5) <| .g rfl rfl (.b 1 rfl) (fun hc => op_loadT (R := rS) (u := (f_).Of) tok9 (.cond z0 hc) rfl) <| .g rfl rfl (.b 2 rfl) (fun hc => op_callF call125 (ref09_IsName_ok (opt_t ht85 hc)) (.cons (.of (.cond z0 hc)) <| .nil)) <| .g rfl rfl (.b 3 rfl) (fun hc => op_not (.cond z0 hc)) <| .o (op_and z4 (fun hp => (.cond z0 (beqT hp)))) <| .q 0 rfl <| .g rfl rfl (.b 0 rfl) (fun _ => op_field fld44_3 z11) <| .g rfl rfl (.b 1 rfl) (fun hc => op_loadT (R := rI) (u := (f_).Kind) tok3 (.cond z0 hc) rfl) <| .g rfl rfl (.b 2 rfl) (fun hc => op_neq (.cond z0 hc) .k) <| .g rfl rfl (.b 3 rfl) (fun hc => op_move (.cond z0 hc)) <| .g rfl rfl (.c 0 rfl) (fun _ => op_field fld44_1 z15) <| .g rfl rfl (.c 1 rfl) (fun hc => op_loadT (R := rS) (u := (f_).Of) tok9 (.cond z0 hc) rfl) <| .g rfl rfl (.c 2 rfl) (fun hc => op_neqS (.cond z0 hc) .k) <| .g rfl rfl (.b 7 rfl) (fun hc => op_or (.cond z3 hc) (fun hp => (.cond z0 (band_mk hc (beqF hp))))) <| .o (op_and z8 (fun hp => (.cond z0 (beqT hp)))) <| .q 0 rfl <| .g rfl rfl (.b 0 rfl) (fun _ => op_move z20) <| .g rfl rfl (.b 1 rfl) (fun hc => op_move (.cond z0 hc)) <| .g rfl rfl (.c 0 rfl) (fun _ => op_field fld44_2 z23) <| .g rfl rfl (.c 1 rfl) (fun hc => op_loadT (R := rS) (u := (f_).Up) tok9 (.cond z0 hc) rfl) <| .g rfl rfl (.c 2 rfl) (fun hc => op_callF call125 (ref09_IsName_ok (opt_t ht103 hc)) (.cons (.of (.cond z0 hc)) <| .nil)) <| .g rfl rfl (.c 3 rfl) (fun hc => op_not (.cond z0 hc)) <| .g rfl rfl (.b 6 rfl) (fun hc => op_and (.cond z4 hc) (fun hp => (.cond z0 (band_mk hc (beqT hp))))) <| .o (op_or z7 (fun hp => (.cond z0 (beqF hp)))) <| .n) fun n4 a w hst => ?_
  replace hst := hst.to [25,29] [_,_] [] rfl rfl
  refine wt hst (fun b33 => ?_) (fun b33 => ?_)
  ·replace h := ite_t b33 h
   refine sr mixed [] hst (fun _ => .o (op_assign .k) <| .n) fun n5 a w hst => ?_
   replace hst := hst.to [0] [_] [] rfl rfl
   refine wp_ret ?_
   obtain rfl := sj h
   exact ret_st undef [] hpl hst rfl (.tmp z0 .nil) rfl rfl rfl
  ·replace h := ite_f b33 h
   refine wp_skip ?_
   refine hK6 _ _ ?_
   try clear hK6 K6
   refine wp_seq_k (fun K9 hK9 => ?_)
   refine sr mixed [] hst (fun _ => .o (op_field fld44_3 z1) <| .o (op_loadT (R := rI) (u := (f_).Kind) tok3 z0 rfl) <| .n) fun n6 a w hst => ?_
   replace hst := hst.to [1,3] [_,_] [] rfl rfl
   refine wp_block ?_
   refine sr mixed [] hst (fun _ => .o (op_eql z0 .k) <| .o (op_assign z0) <| .n) fun n7 a w hst => ?_
   replace hst := hst.to [1,2,3] [_,_,_] [] rfl rfl
   refine wt hst (fun b32 => ?_) (fun b32 => ?_)
   ·replace h := ite_t b32 h
    obtain ⟨t113,ht113,h⟩ := bind_some h
    refine sr mixed [] hst (fun _ => .o (op_field fld44_4 z2) <| .o (op_loadT (R := rI) (u := (f_).Lo) tok3 z0 rfl) <| .o (op_callF call89 (ref09_within_ok ht113) (.cons (.of z0) <| .cons (.of .k) <| .cons (.of .k) <| .nil)) <| .o (op_assign z0) <| .n) fun n8 a w hst => ?_
    replace hst := hst.to [3] [_] [] rfl rfl
    refine wp_ret ?_
    obtain rfl := sj h
    exact ret_st undef [] hpl hst rfl (.tmp z0 .nil) rfl rfl rfl
   ·replace h := ite_f b32 h
    refine sr mixed [] hst (fun _ => .o (op_eql z1 .k) <| .o (op_assign z0) <| .n) fun n9 a w hst => ?_
    replace hst := hst.to [1,3,4] [_,_,_] [] rfl rfl
    refine wt hst (fun b31 => ?_) (fun b31 => ?_)
    ·replace h := ite_t b31 h
     obtain ⟨t120,ht120,h⟩ := bind_some h
     refine sr mixed [] hst (fun _ => .o (op_field fld44_4 z2) <| .o (op_loadT (R := rI) (u := (f_).Lo) tok3 z0 rfl) <| .o (op_field fld44_5 z4) <| .o (op_loadT (R := rI) (u := (f_).Hi) tok3 z0 rfl) <| .o (op_callF call126 (ref09_span_ok ht120) (.cons (.of z2) <| .cons (.of z0) <| .cons (.of .k) <| .cons (.of .k) <| .nil)) <| .o (op_assign z0) <| .n) fun n10 a w hst => ?_
     replace hst := hst.to [5] [_] [] rfl rfl
     refine wp_ret ?_
     obtain rfl := sj h
     exact ret_st undef [] hpl hst rfl (.tmp z0 .nil) rfl rfl rfl
    ·replace h := ite_f b31 h
     refine sr mixed [] hst (fun _ => .o (op_eql z1 .k) <| .o (op_assign z0) <| .n) fun n11 a w hst => ?_
     replace hst := hst.to [1,3,4] [_,_,_] [] rfl rfl
     refine wt hst (fun b30 => ?_) (fun b30 => ?_)
     ·replace h := ite_t b30 h
      obtain ⟨t127,ht127,h⟩ := bind_some h
      refine sr mixed [] hst (fun _ => .o (op_field fld44_4 z2) <| .o (op_loadT (R := rI) (u := (f_).Lo) tok3 z0 rfl) <| .o (op_field fld44_5 z4) <| .o (op_loadT (R := rI) (u := (f_).Hi) tok3 z0 rfl) <| .o (op_callF call126 (ref09_span_ok ht127) (.cons (.of z2) <| .cons (.of z0) <| .cons (.of .k) <| .cons (.of .k) <| .nil)) <| .o (op_assign z0) <| .n) fun n12 a w hst => ?_
      replace hst := hst.to [5] [_] [] rfl rfl
      refine wp_ret ?_
      obtain rfl := sj h
      exact ret_st undef [] hpl hst rfl (.tmp z0 .nil) rfl rfl rfl
     ·replace h := ite_f b30 h
      refine sr mixed [] hst (fun _ => .o (op_eql z1 .k) <| .o (op_assign z0) <| .n) fun n13 a w hst => ?_
      replace hst := hst.to [1,3,4] [_,_,_] [] rfl rfl
      refine wt hst (fun b29 => ?_) (fun b29 => ?_)
      ·replace h := ite_t b29 h
       obtain ⟨t134,ht134,h⟩ := bind_some h
       refine sr mixed [] hst (fun _ => .o (op_field fld44_4 z2) <| .o (op_loadT (R := rI) (u := (f_).Lo) tok3 z0 rfl) <| .o (op_field fld44_5 z4) <| .o (op_loadT (R := rI) (u := (f_).Hi) tok3 z0 rfl) <| .o (op_callF call126 (ref09_span_ok ht134) (.cons (.of z2) <| .cons (.of z0) <| .cons (.of .k) <| .cons (.of .k) <| .nil)) <| .o (op_assign z0) <| .n) fun n14 a w hst => ?_
       replace hst := hst.to [5] [_] [] rfl rfl
       refine wp_ret ?_
       obtain rfl := sj h
       exact ret_st undef [] hpl hst rfl (.tmp z0 .nil) rfl rfl rfl
      ·replace h := ite_f b29 h
       refine sr mixed [] hst (fun _ => .o (op_eql z1 .k) <| .o (op_assign z0) <| .n) fun n15 a w hst => ?_
       replace hst := hst.to [1,3,4] [_,_,_] [] rfl rfl
       refine wt hst (fun b28 => ?_) (fun b28 => ?_)
       ·replace h := ite_t b28 h
        obtain ⟨t141,ht141,h⟩ := bind_some h
        refine sr mixed [] hst (fun _ => .o (op_field fld44_4 z2) <| .o (op_loadT (R := rI) (u := (f_).Lo) tok3 z0 rfl) <| .o (op_field fld44_5 z4) <| .o (op_loadT (R := rI) (u := (f_).Hi) tok3 z0 rfl) <| .o (op_callF call126 (ref09_span_ok ht141) (.cons (.of z2) <| .cons (.of z0) <| .cons (.of .k) <| .cons (.of .k) <| .nil)) <| .o (op_assign z0) <| .n) fun n16 a w hst => ?_
        replace hst := hst.to [5] [_] [] rfl rfl
        refine wp_ret ?_
        obtain rfl := sj h
        exact ret_st undef [] hpl hst rfl (.tmp z0 .nil) rfl rfl rfl
       ·replace h := ite_f b28 h
        refine sr mixed [] hst (fun _ => .o (op_eql z1 .k) <| .o (op_assign z0) <| .n) fun n17 a w hst => ?_
        replace hst := hst.to [1,3,4] [_,_,_] [] rfl rfl
        refine wt hst (fun b27 => ?_) (fun b27 => ?_)
        ·replace h := ite_t b27 h
         obtain ⟨t148,ht148,h⟩ := bind_some h
         refine sr mixed [] hst (fun _ => .o (op_field fld44_4 z2) <| .o (op_loadT (R := rI) (u := (f_).Lo) tok3 z0 rfl) <| .o (op_field fld44_5 z4) <| .o (op_loadT (R := rI) (u := (f_).Hi) tok3 z0 rfl) <| .o (op_callF call126 (ref09_span_ok ht148) (.cons (.of z2) <| .cons (.of z0) <| .cons (.of .k) <| .cons (.of .k) <| .nil)) <| .o (op_assign z0) <| .n) fun n18 a w hst => ?_
         replace hst := hst.to [5] [_] [] rfl rfl
         refine wp_ret ?_
         obtain rfl := sj h
         exact ret_st undef [] hpl hst rfl (.tmp z0 .nil) rfl rfl rfl
        ·replace h := ite_f b27 h
         refine sr mixed [] hst (fun _ => .o (op_eql z1 .k) <| .o (op_assign z0) <| .n) fun n19 a w hst => ?_
         replace hst := hst.to [1,4] [_,_] [] rfl rfl
         refine wt hst (fun b26 => ?_) (fun b26 => ?_)
         ·replace h := ite_t b26 h
          obtain ⟨t152,ht152,h⟩ := bind_some h
          refine sr mixed [] hst (fun _ => .o (op_load tok44 z1) <| .o (op_callF call157 (ref09_isPick_ok ht152) (.cons (.of z0) <| .nil)) <| .o (op_assign z0) <| .n) fun n20 a w hst => ?_
          replace hst := hst.to [2] [_] [] rfl rfl
          refine wp_ret ?_
          obtain rfl := sj h
          exact ret_st undef [] hpl hst rfl (.tmp z0 .nil) rfl rfl rfl
         ·replace h := ite_f b26 h
          refine wp_skip ?_
          refine hK9 _ _ ?_
          try clear hK9 K9
          refine sr mixed [] hst (fun _ => .o (op_assign .k) <| .n) fun n21 a w hst => ?_
          replace hst := hst.to [0] [_] [] rfl rfl
          refine wp_ret ?_
          obtain rfl := sj h
          exact ret_st undef [] hpl hst rfl (.tmp z0 .nil) rfl rfl rfl

/- diorama/dioramaref09.isKind -/
noncomputable def fref09_isKind (k_ : Sapi_Kind) : Option (Bool) := (fref09_IsName (k_).Name).bind fun t6 => (opt ((!t6) == false) (fref09_span (k_).Lo (k_).Hi (0:Int) (65536:Int)) default).bind fun t13 => (if (((!t6) || (!t13)) || (decide (((k_).Fields.length : Int) > (10:Int)))) = true then (some false) else (tailrec (fun (s7 : Int) => ((if (decide (s7 < ((k_).Fields.length : Int))) = true then (idx (k_).Fields s7).bind fun t32 => (fref09_isField t32).bind fun t34 => (if (!t34) = true then (some (.inr (.inr false))) else (some (.inl (IntKind.i64.wrap (s7 + (1:Int)))))) else (some (.inr (.inl ())))) : Option ((Int) ⊕ ((Unit) ⊕ (Bool))))) (0:Int)).bind fun (e8 : (Unit) ⊕ (Bool)) => (match e8 with | .inl _ => (some true) | .inr p24 => (some p24)))
set_option maxRecDepth 100000 in
set_option maxHeartbeats 4000000 in
theorem ref09_isKind_ok {k_ : Sapi_Kind} {r : Bool} (h : fref09_isKind k_ = some r) : FnOk Tryz.prog 90 [rSapi_Kind.ty k_] [] (fun _ => []) (fun _ => tb r) := by
 unfold fref09_isKind at h
 refine FnOk.enter Tryz.func90 rfl Tryz.ntmps90 (leb rfl) (fun M0 M w0 a hpl hst => ?_)
 replace hst : St M w0 36 [(0,rSapi_Kind.ty k_)] [] a w0 := hst
 refine sr mixed [] hst (fun _ => .o (op_boxR (R := rSapi_Kind) (u := k_) z0) <| .o (op_assign .k) <| .n) fun n0 a w hst => ?_
 replace hst := hst.to [0] [_] [] rfl rfl
 refine wp_seq_k (fun K2 hK2 => ?_)
 obtain ⟨t6,ht6,h⟩ := bind_some h
 obtain ⟨t13,ht13,h⟩ := bind_some h
 refine sr mixed [] hst (fun _ => .o (op_field fld47_0 z0) <| .o (op_loadT (R := rS) (u := (k_).Name) tok9 z0 rfl) <| .o (op_callF call125 (ref09_IsName_ok ht6) (.cons (.of z0) <| .nil)) <| .o (op_not z0) <| .q 0 rfl <| .g rfl rfl (.b 0 rfl) (fun _ => op_field fld47_1 z5) <| .g rfl rfl (.b 1 rfl) (fun hc => op_loadT (R := rI) (u := (k_).Lo) tok3 (.cond z0 hc) rfl) <| .g rfl rfl (.b 2 rfl) (fun _ => op_field fld47_2 z7) <| .g rfl rfl (.b 3 rfl) (fun hc => op_loadT (R := rI) (u := (k_).Hi) tok3 (.cond z0 hc) rfl) <| .g rfl rfl (.b 4 rfl) (fun hc => op_callF call126 (ref09_span_ok (opt_t ht13 hc)) (.cons (.of (.cond z2 hc)) <| .cons (.of (.cond z0 hc)) <| .cons (.of .k) <| .cons (.of .k) <| .nil)) <| .g rfl rfl (.b 5 rfl) (fun hc => op_not (.cond z0 hc)) <| .o (op_or z6 (fun hp => (.cond z0 (beqF hp)))) <| .q 0 rfl <| .g rfl rfl (.b 0 rfl) (fun _ => op_field fld47_3 z13) <| .g rfl rfl (.b 1 rfl) (fun hc => op_loadT (R := (rSl rSapi_Field)) (u := (k_).Fields) tok45 (.cond z0 hc) rfl) <| .g rfl rfl (.b 2 rfl) (fun hc => op_len ud45 (.cond z0 hc)) <| .g rfl rfl (.b 3 rfl) (fun hc => op_gtr (.cond z0 hc) .k) <| .o (op_or z4 (fun hp => (.cond z0 (beqF hp)))) <| .n) fun n1 a w hst => ?_
 replace hst := hst.to [17,18] [_,_] [] rfl rfl
 refine wt hst (fun b34 => ?_) (fun b34 => ?_)
 ·replace h := ite_t b34 h
  refine sr mixed [] hst (fun _ => .o (op_assign .k) <| .n) fun n2 a w hst => ?_
  replace hst := hst.to [0] [_] [] rfl rfl
  refine wp_ret ?_
  obtain rfl := sj h
  exact ret_st undef [] hpl hst rfl (.tmp z0 .nil) rfl rfl rfl
 ·replace h := ite_f b34 h
  refine wp_skip ?_
  refine hK2 _ _ ?_
  try clear hK2 K2
  refine wp_seq_k (fun K5 hK5 => ?_)
  refine sr mixed [] hst (fun _ => .o (op_assign .k) <| .n) fun n3 a w hst => ?_
  replace hst := hst.to [0,2] [_,_] [] rfl rfl
  obtain ⟨e8,he8,h⟩ := bind_some h
  have hJp23 : ∀ (p23 : Unit) a w,(.inl p23) = e8 → St M w0 36 [] [] a w → K5 a w := by
   intro p23 a w he hst
   subst he
   simp only at h
   refine hK5 _ _ ?_
   try clear hK5 K5
   refine sr mixed [] hst (fun _ => .o (op_assign .k) <| .n) fun n8 a w hst => ?_
   replace hst := hst.to [0] [_] [] rfl rfl
   refine wp_ret ?_
   obtain rfl := sj h
   exact ret_st undef [] hpl hst rfl (.tmp z0 .nil) rfl rfl rfl
  have hJp24 : ∀ (p24 : Bool) a w,(.inr p24) = e8 → St M w0 36 [(2,tb p24)] [] a w → Ret Tryz.prog Tryz.f90 M0 [] w0 (fun _ => []) (fun _ => tb r) .ret a w := by
   intro p24 a w he hst
   subst he
   simp only at h
   obtain rfl := sj h
   exact ret_st undef [] hpl hst rfl (.tmp z0 .nil) rfl rfl rfl
  refine wp_block ?_
  refine wp_loopK _ (fun (s7 : Int) a w => St M w0 36 [(3,ti s7),(1,tptr (rSapi_Kind.cs k_))] [] a w) _ _ he8 (hst.pick [0,1]) ?_
  clear h
  intro s7 o a w K26 hI h ho hK26
  have hst := hI
  clear hI
  refine wp_seq_k (fun K27 hK27 => ?_)
  refine sr mixed [] hst (fun _ => .q 0 rfl <| .o (op_field fld47_3 z2) <| .o (op_loadT (R := (rSl rSapi_Field)) (u := (k_).Fields) tok45 z0 rfl) <| .o (op_len ud45 z0) <| .o (op_lss z3 z0) <| .n) fun n4 a w hst => ?_
  replace hst := hst.to [4,5,6] [_,_,_] [] rfl rfl
  refine wt hst (fun b33 => ?_) (fun b33 => ?_)
  ·replace h := ite_t b33 h
   refine wp_skip ?_
   refine hK27 _ _ ?_
   try clear hK27 K27
   refine wp_seq_k (fun K29 hK29 => ?_)
   refine wp_block ?_
   obtain ⟨t32,ht32,h⟩ := bind_some h
   obtain ⟨t34,ht34,h⟩ := bind_some h
   refine sr mixed [] hst (fun _ => .o (op_field fld47_3 z2) <| .o (op_loadT (R := (rSl rSapi_Field)) (u := (k_).Fields) tok45 z0 rfl) <| .q 3 rfl <| .o (op_index ud45 tok44 z1 z0 ht32) <| .o (op_load tok44 z0) <| .o (op_callF call127 (ref09_isField_ok ht34) (.cons (.of z0) <| .nil)) <| .o (op_not z0) <| .n) fun n6 a w hst => ?_
   replace hst := hst.to [6,8,9] [_,_,_] [] rfl rfl
   refine wt hst (fun b32 => ?_) (fun b32 => ?_)
   ·replace h := ite_t b32 h
    refine sr mixed [] hst (fun _ => .o (op_assign .k) <| .n) fun n7 a w hst => ?_
    replace hst := hst.to [0] [_] [] rfl rfl
    refine wp_ret ?_
    exact hJp24 _ _ _ (ho _ (sj h).symm) (hst.pick [0])
   ·replace h := ite_f b32 h
    refine wp_skip ?_
    refine hK29 _ _ ?_
    try clear hK29 K29
    refine wr mixed [] hst (fun _ => .q 1 rfl <| .o (op_add z0 .k) <| .o (op_assign z0) <| .n) fun n5 a w hst => ?_
    replace hst := hst.to [2,4] [_,_] [] rfl rfl
    exact hK26 _ _ _ (sj h).symm (hst.pick [0,1])
  ·replace h := ite_f b33 h
   refine wp_exit ?_
   exact hJp23 _ _ _ (ho _ (sj h).symm) (hst.pick [])

/- diorama/dioramaref09.isLife -/
noncomputable def fref09_isLife (x_ : Sapi_Life) : Option (Bool) := (fref09_IsName (x_).Name).bind fun t6 => (opt ((!t6) == false) (fref09_within ((x_).States.length : Int) (1:Int) (12:Int)) default).bind fun t12 => (opt (((!t6) || (!t12)) == false) (fref09_names (x_).States) default).bind fun t18 => (if ((((!t6) || (!t12)) || (!t18)) || (decide (((x_).Moves.length : Int) > (32:Int)))) = true then (some false) else (tailrec (fun (s7 : Int) => ((if (decide (s7 < ((x_).Moves.length : Int))) = true then (idx (x_).Moves s7).bind fun t37 => (fref09_within (t37).a0 (0:Int) (IntKind.i64.wrap (((x_).States.length : Int) - (1:Int)))).bind fun t44 => (opt ((!t44) == false) (idx (x_).Moves s7) default).bind fun t50 => (opt ((!t44) == false) (fref09_within (t50).a1 (0:Int) (IntKind.i64.wrap (((x_).States.length : Int) - (1:Int)))) default).bind fun t57 => (if ((!t44) || (!t57)) = true then (some (.inr (.inr false))) else (some (.inl (IntKind.i64.wrap (s7 + (1:Int)))))) else (some (.inr (.inl ())))) : Option ((Int) ⊕ ((Unit) ⊕ (Bool))))) (0:Int)).bind fun (e8 : (Unit) ⊕ (Bool)) => (match e8 with | .inl _ => (some true) | .inr p24 => (some p24)))
set_option maxRecDepth 100000 in
set_option maxHeartbeats 4000000 in
theorem ref09_isLife_ok {x_ : Sapi_Life} {r : Bool} (h : fref09_isLife x_ = some r) : FnOk Tryz.prog 91 [rSapi_Life.ty x_] [] (fun _ => []) (fun _ => tb r) := by
 unfold fref09_isLife at h
 refine FnOk.enter Tryz.func91 rfl Tryz.ntmps91 (leb rfl) (fun M0 M w0 a hpl hst => ?_)
 replace hst : St M w0 60 [(0,rSapi_Life.ty x_)] [] a w0 := hst
 refine sr mixed [] hst (fun _ => .o (op_boxR (R := rSapi_Life) (u := x_) z0) <| .o (op_assign .k) <| .n) fun n0 a w hst => ?_
 replace hst := hst.to [0] [_] [] rfl rfl
 refine wp_seq_k (fun K2 hK2 => ?_)
 obtain ⟨t6,ht6,h⟩ := bind_some h
 obtain ⟨t12,ht12,h⟩ := bind_some h
 obtain ⟨t18,ht18,h⟩ := bind_some h
 refine sr mixed [] hst (fun _ => .o (op_field fld67_0 z0) <| .o (op_loadT (R := rS) (u := (x_).Name) tok9 z0 rfl) <| .o (op_callF call125 (ref09_IsName_ok ht6) (.cons (.of z0) <| .nil)) <| .o (op_not z0) <| .q 0 rfl <| .g rfl rfl (.b 0 rfl) (fun _ => op_field fld67_1 z5) <| .g rfl rfl (.b 1 rfl) (fun hc => op_loadT (R := (rSl rS)) (u := (x_).States) tok38 (.cond z0 hc) rfl) <| .g rfl rfl (.b 2 rfl) (fun hc => op_len ud38 (.cond z0 hc)) <| .g rfl rfl (.b 3 rfl) (fun hc => op_callF call89 (ref09_within_ok (opt_t ht12 hc)) (.cons (.of (.cond z0 hc)) <| .cons (.of .k) <| .cons (.of .k) <| .nil)) <| .g rfl rfl (.b 4 rfl) (fun hc => op_not (.cond z0 hc)) <| .o (op_or z5 (fun hp => (.cond z0 (beqF hp)))) <| .q 0 rfl <| .g rfl rfl (.b 0 rfl) (fun _ => op_field fld67_1 z12) <| .g rfl rfl (.b 1 rfl) (fun hc => op_loadT (R := (rSl rS)) (u := (x_).States) tok38 (.cond z0 hc) rfl) <| .g rfl rfl (.b 2 rfl) (fun hc => op_callF call128 (ref09_names_ok (opt_t ht18 hc)) (.cons (.of (.cond z0 hc)) <| .nil)) <| .g rfl rfl (.b 3 rfl) (fun hc => op_not (.cond z0 hc)) <| .o (op_or z4 (fun hp => (.cond z0 (beqF hp)))) <| .q 0 rfl <| .g rfl rfl (.b 0 rfl) (fun _ => op_field fld67_2 z18) <| .g rfl rfl (.b 1 rfl) (fun hc => op_loadT (R := (rSl rA2_Int)) (u := (x_).Moves) tok65 (.cond z0 hc) rfl) <| .g rfl rfl (.b 2 rfl) (fun hc => op_len ud65 (.cond z0 hc)) <| .g rfl rfl (.b 3 rfl) (fun hc => op_gtr (.cond z0 hc) .k) <| .o (op_or z4 (fun hp => (.cond z0 (beqF hp)))) <| .n) fun n1 a w hst => ?_
 replace hst := hst.to [22,23] [_,_] [] rfl rfl
 refine wt hst (fun b34 => ?_) (fun b34 => ?_)
 ·replace h := ite_t b34 h
  refine sr mixed [] hst (fun _ => .o (op_assign .k) <| .n) fun n2 a w hst => ?_
  replace hst := hst.to [0] [_] [] rfl rfl
  refine wp_ret ?_
  obtain rfl := sj h
  exact ret_st undef [] hpl hst rfl (.tmp z0 .nil) rfl rfl rfl
 ·replace h := ite_f b34 h
  refine wp_skip ?_
  refine hK2 _ _ ?_
  try clear hK2 K2
  refine wp_seq_k (fun K5 hK5 => ?_)
  refine sr mixed [] hst (fun _ => .o (op_assign .k) <| .n) fun n3 a w hst => ?_
  replace hst := hst.to [0,2] [_,_] [] rfl rfl
  obtain ⟨e8,he8,h⟩ := bind_some h
  have hJp23 : ∀ (p23 : Unit) a w,(.inl p23) = e8 → St M w0 60 [] [] a w → K5 a w := by
   intro p23 a w he hst
   subst he
   simp only at h
   refine hK5 _ _ ?_
   try clear hK5 K5
   refine sr mixed [] hst (fun _ => .o (op_assign .k) <| .n) fun n8 a w hst => ?_
   replace hst := hst.to [0] [_] [] rfl rfl
   refine wp_ret ?_
   obtain rfl := sj h
   exact ret_st undef [] hpl hst rfl (.tmp z0 .nil) rfl rfl rfl
  have hJp24 : ∀ (p24 : Bool) a w,(.inr p24) = e8 → St M w0 60 [(2,tb p24)] [] a w → Ret Tryz.prog Tryz.f91 M0 [] w0 (fun _ => []) (fun _ => tb r) .ret a w := by
   intro p24 a w he hst
   subst he
   simp only at h
   obtain rfl := sj h
   exact ret_st undef [] hpl hst rfl (.tmp z0 .nil) rfl rfl rfl
  refine wp_block ?_
  refine wp_loopK _ (fun (s7 : Int) a w => St M w0 60 [(3,ti s7),(1,tptr (rSapi_Life.cs x_))] [] a w) _ _ he8 (hst.pick [0,1]) ?_
  clear h
  intro s7 o a w K26 hI h ho hK26
  have hst := hI
  clear hI
  refine wp_seq_k (fun K27 hK27 => ?_)
  refine sr mixed [] hst (fun _ => .q 0 rfl <| .o (op_field fld67_2 z2) <| .o (op_loadT (R := (rSl rA2_Int)) (u := (x_).Moves) tok65 z0 rfl) <| .o (op_len ud65 z0) <| .o (op_lss z3 z0) <| .n) fun n4 a w hst => ?_
  replace hst := hst.to [4,5,6] [_,_,_] [] rfl rfl
  refine wt hst (fun b33 => ?_) (fun b33 => ?_)
  ·replace h := ite_t b33 h
   refine wp_skip ?_
   refine hK27 _ _ ?_
   try clear hK27 K27
   refine wp_seq_k (fun K29 hK29 => ?_)
   refine wp_block ?_
   obtain ⟨t37,ht37,h⟩ := bind_some h
   obtain ⟨t44,ht44,h⟩ := bind_some h
   obtain ⟨t50,ht50,h⟩ := bind_some h
   obtain ⟨t57,ht57,h⟩ := bind_some h
   refine sr mixed [] hst (fun _ => .o (op_field fld67_2 z2) <| .o (op_loadT (R := (rSl rA2_Int)) (u := (x_).Moves) tok65 z0 rfl) <| .q 3 rfl <| .o (op_index ud65 tok98 z1 z0 ht37) <| .o (op_idxA 0 rfl ud98 tok3 z0 .k (by decide)) <| .o (op_loadT (R := rI) (u := (t37).a0) tok3 z0 rfl) <| .o (op_field fld67_1 z8) <| .o (op_loadT (R := (rSl rS)) (u := (x_).States) tok38 z0 rfl) <| .o (op_len ud38 z0) <| .o (op_sub z0 .k) <| .o (op_callF call89 (ref09_within_ok ht44) (.cons (.of z4) <| .cons (.of .k) <| .cons (.of z0) <| .nil)) <| .o (op_not z0) <| .q 0 rfl <| .g rfl rfl (.b 0 rfl) (fun _ => op_field fld67_2 z15) <| .g rfl rfl (.b 1 rfl) (fun hc => op_loadT (R := (rSl rA2_Int)) (u := (x_).Moves) tok65 (.cond z0 hc) rfl) <| .g rfl rfl (.b 2 rfl) (fun _ => op_move z16) <| .g rfl rfl (.b 3 rfl) (fun hc => op_index ud65 tok98 (.cond z1 hc) (.cond z0 hc) (opt_t ht50 hc)) <| .g rfl rfl (.b 4 rfl) (fun hc => op_idxA 1 rfl ud98 tok3 (.cond z0 hc) .k (by decide)) <| .g rfl rfl (.b 5 rfl) (fun hc => op_loadT (R := rI) (u := (t50).a1) tok3 (.cond z0 hc) rfl) <| .g rfl rfl (.b 6 rfl) (fun _ => op_field fld67_1 z21) <| .g rfl rfl (.b 7 rfl) (fun hc => op_loadT (R := (rSl rS)) (u := (x_).States) tok38 (.cond z0 hc) rfl) <| .g rfl rfl (.b 8 rfl) (fun hc => op_len ud38 (.cond z0 hc)) <| .g rfl rfl (.b 9 rfl) (fun hc => op_sub (.cond z0 hc) .k) <| .g rfl rfl (.b 10 rfl) (fun hc => op_callF call89 (ref09_within_ok (opt_t ht57 hc)) (.cons (.of (.cond z4 hc)) <| .cons (.of .k) <| .cons (.of (.cond z0 hc)) <| .nil)) <| .g rfl rfl (.b 11 rfl) (fun hc => op_not (.cond z0 hc)) <| .o (op_or z12 (fun hp => (.cond z0 (beqF hp)))) <| .n) fun n6 a w hst => ?_
   replace hst := hst.to [25,27,28] [_,_,_] [] rfl rfl
   refine wt hst (fun b32 => ?_) (fun b32 => ?_)
   ·replace h := ite_t b32 h
    refine sr mixed [] hst (fun _ => .o (op_assign .k) <| .n) fun n7 a w hst => ?_
    replace hst := hst.to [0] [_] [] rfl rfl
    refine wp_ret ?_
    exact hJp24 _ _ _ (ho _ (sj h).symm) (hst.pick [0])
   ·replace h := ite_f b32 h
    refine wp_skip ?_
    refine hK29 _ _ ?_
    try clear hK29 K29
    refine wr mixed [] hst (fun _ => .q 1 rfl <| .o (op_add z0 .k) <| .o (op_assign z0) <| .n) fun n5 a w hst => ?_
    replace hst := hst.to [2,4] [_,_] [] rfl rfl
    exact hK26 _ _ _ (sj h).symm (hst.pick [0,1])
  ·replace h := ite_f b33 h
   refine wp_exit ?_
   exact hJp23 _ _ _ (ho _ (sj h).symm) (hst.pick [])

/- diorama/dioramaref09.isRule -/
noncomputable def fref09_isRule (r_ : Sapi_Rule) : Option (Bool) := (opt (((r_).A != ([] : Str)) == true) (fref09_IsName (r_).A) default).bind fun t9 => (opt (((((r_).A != ([] : Str)) && (!t9)) == false) && (((r_).B != ([] : Str)) == true)) (fref09_IsName (r_).B) default).bind fun t19 => (if (((((r_).A != ([] : Str)) && (!t9)) || (((r_).B != ([] : Str)) && (!t19))) || (((r_).A == ([] : Str)) && ((r_).B == ([] : Str)))) = true then (some false) else (fref09_IsName (r_).Name).bind fun t35 => (opt (t35 == true) (fref09_IsName (r_).Kind) default).bind fun t39 => (opt ((t35 && t39) == true) (fref09_within (r_).N (-1048576:Int) (1048576:Int)) default).bind fun t44 => (some ((t35 && t39) && t44)))
set_option maxRecDepth 100000 in
set_option maxHeartbeats 4000000 in
theorem ref09_isRule_ok {r_ : Sapi_Rule} {r : Bool} (h : fref09_isRule r_ = some r) : FnOk Tryz.prog 92 [rSapi_Rule.ty r_] [] (fun _ => []) (fun _ => tb r) := by
 unfold fref09_isRule at h
 refine FnOk.enter Tryz.func92 rfl Tryz.ntmps92 (leb rfl) (fun M0 M w0 a hpl hst => ?_)
 replace hst : St M w0 46 [(0,rSapi_Rule.ty r_)] [] a w0 := hst
 refine sr mixed [] hst (fun _ => .o (op_boxR (R := rSapi_Rule) (u := r_) z0) <| .o (op_assign .k) <| .n) fun n0 a w hst => ?_
 replace hst := hst.to [0] [_] [] rfl rfl
 refine wp_seq_k (fun K2 hK2 => ?_)
 obtain ⟨t9,ht9,h⟩ := bind_some h
 obtain ⟨t19,ht19,h⟩ := bind_some h
 refine sr mixed [] hst (fun _ => .o (op_field fld100_2 z0) <| .o (op_loadT (R := rS) (u := (r_).A) tok9 z0 rfl) <| .o (op_neqS z0 .k) <| .q 0 rfl <| .g rfl rfl (.b 0 rfl) (fun _ => op_field fld100_2 z4) <| .g rfl rfl (.b 1 rfl) (fun hc => op_loadT (R := rS) (u := (r_).A) tok9 (.cond z0 hc) rfl) <| .g rfl rfl (.b 2 rfl) (fun hc => op_callF call125 (ref09_IsName_ok (opt_t ht9 hc)) (.cons (.of (.cond z0 hc)) <| .nil)) <| .g rfl rfl (.b 3 rfl) (fun hc => op_not (.cond z0 hc)) <| .o (op_and z4 (fun hp => (.cond z0 (beqT hp)))) <| .q 0 rfl <| .g rfl rfl (.b 0 rfl) (fun _ => op_field fld100_3 z10) <| .g rfl rfl (.b 1 rfl) (fun hc => op_loadT (R := rS) (u := (r_).B) tok9 (.cond z0 hc) rfl) <| .g rfl rfl (.b 2 rfl) (fun hc => op_neqS (.cond z0 hc) .k) <| .g rfl rfl (.b 3 rfl) (fun hc => op_move (.cond z0 hc)) <| .g rfl rfl (.c 0 rfl) (fun _ => op_field fld100_3 z14) <| .g rfl rfl (.c 1 rfl) (fun hc => op_loadT (R := rS) (u := (r_).B) tok9 (.cond z0 hc) rfl) <| .g rfl rfl (.c 2 rfl) (fun hc => op_callF call125 (ref09_IsName_ok (opt_t ht19 hc)) (.cons (.of (.cond z0 hc)) <| .nil)) <| .g rfl rfl (.c 3 rfl) (fun hc => op_not (.cond z0 hc)) <| .g rfl rfl (.b 8 rfl) (fun hc => op_and (.cond z4 hc) (fun hp => (.cond z0 (band_mk hc (beqT hp))))) <| .o (op_or z9 (fun hp => (.cond z0 (beqF hp)))) <| .q 0 rfl <| .g rfl rfl (.b 0 rfl) (fun _ => op_field fld100_2 z21) <| .g rfl rfl (.b 1 rfl) (fun hc => op_loadT (R := rS) (u := (r_).A) tok9 (.cond z0 hc) rfl) <| .g rfl rfl (.b 2 rfl) (fun hc => op_eqlS (.cond z0 hc) .k) <| .g rfl rfl (.b 3 rfl) (fun hc => op_move (.cond z0 hc)) <| .g rfl rfl (.c 0 rfl) (fun _ => op_field fld100_3 z25) <| .g rfl rfl (.c 1 rfl) (fun hc => op_loadT (R := rS) (u := (r_).B) tok9 (.cond z0 hc) rfl) <| .g rfl rfl (.c 2 rfl) (fun hc => op_eqlS (.cond z0 hc) .k) <| .g rfl rfl (.b 7 rfl) (fun hc => op_and (.cond z3 hc) (fun hp => (.cond z0 (band_mk hc (beqT hp))))) <| .o (op_or z8 (fun hp => (.cond z0 (beqF hp)))) <| .n) fun n1 a w hst => ?_
 replace hst := hst.to [29,30] [_,_] [] rfl rfl
 refine wt hst (fun b6 => ?_) (fun b6 => ?_)
 ·replace h := ite_t b6 h
  refine sr mixed [] hst (fun _ => .o (op_assign .k) <| .n) fun n2 a w hst => ?_
  replace hst := hst.to [0] [_] [] rfl rfl
  refine wp_ret ?_
  obtain rfl := sj h
  exact ret_st undef [] hpl hst rfl (.tmp z0 .nil) rfl rfl rfl
 ·replace h := ite_f b6 h
  refine wp_skip ?_
  refine hK2 _ _ ?_
  try clear hK2 K2
  obtain ⟨t35,ht35,h⟩ := bind_some h
  obtain ⟨t39,ht39,h⟩ := bind_some h
  obtain ⟨t44,ht44,h⟩ := bind_some h
  refine sr mixed [] hst (fun _ => .o (op_field fld100_0 z1) <| .o (op_loadT (R := rS) (u := (r_).Name) tok9 z0 rfl) <| .o (op_callF call125 (ref09_IsName_ok ht35) (.cons (.of z0) <| .nil)) <| .q 0 rfl <| .g rfl rfl (.b 0 rfl) (fun _ => op_field fld100_1 z5) <| .g rfl rfl (.b 1 rfl) (fun hc => op_loadT (R := rS) (u := (r_).Kind) tok9 (.cond z0 hc) rfl) <| .g rfl rfl (.b 2 rfl) (fun hc => op_callF call125 (ref09_IsName_ok (opt_t ht39 hc)) (.cons (.of (.cond z0 hc)) <| .nil)) <| .o (op_and z3 (fun hp => (.cond z0 (beqT hp)))) <| .q 0 rfl <| .g rfl rfl (.b 0 rfl) (fun _ => op_field fld100_4 z10) <| .g rfl rfl (.b 1 rfl) (fun hc => op_loadT (R := rI) (u := (r_).N) tok3 (.cond z0 hc) rfl) <| .g rfl rfl (.b 2 rfl) (fun hc => op_callF call89 (ref09_within_ok (opt_t ht44 hc)) (.cons (.of (.cond z0 hc)) <| .cons (.of .k) <| .cons (.of .k) <| .nil)) <| .o (op_and z3 (fun hp => (.cond z0 (beqT hp)))) <| .o (op_assign z0) <| .n) fun n3 a w hst => ?_
  replace hst := hst.to [13] [_] [] rfl rfl
  refine wp_ret ?_
  obtain rfl := sj h
  exact ret_st undef [] hpl hst rfl (.tmp z0 .nil) rfl rfl rfl

/- diorama/dioramaref09.Decimal -/
noncomputable def fref09_DecimalS (self : Int → Option (Str)) (n_ : Int) : Option (Str) := (if (decide (n_ < (0:Int))) = true then (self (IntKind.i64.wrap (0 - n_))).bind fun t7 => (cat (([45] : Str).length + t7.length)).bind fun _ => (some (([45] : Str) ++ t7)) else (if (decide (n_ < (10:Int))) = true then (some (strOf [(IntKind.u8.wrap (IntKind.i64.wrap ((48:Int) + n_)))])) else (self (IntKind.i64.wrap (Int.tdiv n_ (10:Int)))).bind fun t18 => (cat (t18.length + (strOf [(IntKind.u8.wrap (IntKind.i64.wrap ((48:Int) + (Int.tmod n_ (10:Int)))))]).length)).bind fun _ => (some (t18 ++ (strOf [(IntKind.u8.wrap (IntKind.i64.wrap ((48:Int) + (Int.tmod n_ (10:Int)))))])))))
set_option maxRecDepth 100000 in
set_option maxHeartbeats 4000000 in
theorem ref09_Decimal_okS {self : Int → Option (Str)} (hself : ∀ (n_ : Int) (r : Str),self n_ = some r → FnOk Tryz.prog 158 [ti n_] [] (fun _ => []) (fun _ => tv (.string (sB r)))) {n_ : Int} {r : Str} (h : fref09_DecimalS self n_ = some r) : FnOk Tryz.prog 158 [ti n_] [] (fun _ => []) (fun _ => tv (.string (sB r))) := by
 unfold fref09_DecimalS at h
 refine FnOk.enter Tryz.func158 rfl Tryz.ntmps158 (leb rfl) (fun M0 M w0 a hpl hst => ?_)
 replace hst : St M w0 26 [(0,ti n_)] [] a w0 := hst
 refine sr mixed [] hst (fun _ => .o (op_assign .k) <| .n) fun n0 a w hst => ?_
 replace hst := hst.to [1] [_] [] rfl rfl
 refine wp_seq_k (fun K2 hK2 => ?_)
 refine sr mixed [] hst (fun _ => .q 0 rfl <| .o (op_lss z0 .k) <| .n) fun n1 a w hst => ?_
 replace hst := hst.to [1,2] [_,_] [] rfl rfl
 refine wt hst (fun b10 => ?_) (fun b10 => ?_)
 ·replace h := ite_t b10 h
  refine wp_seq_k (fun K4 hK4 => ?_)
  obtain ⟨t7,ht7,h⟩ := bind_some h
  obtain ⟨u8,hu8,h⟩ := bind_some h
  refine wr mixed [] hst (fun _ => .q 1 rfl <| .o (op_neg z0) <| .o (op_callF call158 (hself _ _ ht7) (.cons (.of z0) <| .nil)) <| .o (op_addS .k z0 hu8) <| .o (op_assign z0) <| .n) fun n2 a w hst => ?_
  replace hst := hst.to [4] [_] [] rfl rfl
  refine hK4 _ _ ?_
  try clear hK4 K4
  refine wp_ret ?_
  obtain rfl := sj h
  exact ret_st undef [] hpl hst rfl (.tmp z0 .nil) rfl rfl rfl
 ·replace h := ite_f b10 h
  refine wp_skip ?_
  refine hK2 _ _ ?_
  try clear hK2 K2
  refine wp_seq_k (fun K5 hK5 => ?_)
  refine sr mixed [] hst (fun _ => .q 1 rfl <| .o (op_lss z0 .k) <| .n) fun n3 a w hst => ?_
  replace hst := hst.to [1,3] [_,_] [] rfl rfl
  refine wt hst (fun b9 => ?_) (fun b9 => ?_)
  ·replace h := ite_t b9 h
   refine sr mixed [] hst (fun _ => .q 1 rfl <| .o (op_add .k z0) <| .o (op_conv ud3 ud5 z0) <| .o (op_buildSl (R := (rInt .u8)) (us := [(IntKind.u8.wrap (IntKind.i64.wrap ((48:Int) + n_)))]) ud149 tok5 (.cons z0 <| .nil _) rfl (leb rfl)) <| .o (op_b2s ud149 ud5 ud9 z0) <| .o (op_assign z0) <| .n) fun n4 a w hst => ?_
   replace hst := hst.to [5] [_] [] rfl rfl
   refine wp_ret ?_
   obtain rfl := sj h
   exact ret_st undef [] hpl hst rfl (.tmp z0 .nil) rfl rfl rfl
  ·replace h := ite_f b9 h
   refine wp_skip ?_
   refine hK5 _ _ ?_
   try clear hK5 K5
   refine wp_seq_k (fun K8 hK8 => ?_)
   obtain ⟨t18,ht18,h⟩ := bind_some h
   obtain ⟨u25,hu25,h⟩ := bind_some h
   refine wr mixed [] hst (fun _ => .q 1 rfl <| .o (op_quo z0 .k (by decide)) <| .o (op_callF call158 (hself _ _ ht18) (.cons (.of z0) <| .nil)) <| .q 4 rfl <| .o (op_rem z0 .k (by decide)) <| .o (op_add .k z0) <| .o (op_conv ud3 ud5 z0) <| .o (op_buildSl (R := (rInt .u8)) (us := [(IntKind.u8.wrap (IntKind.i64.wrap ((48:Int) + (Int.tmod n_ (10:Int)))))]) ud149 tok5 (.cons z0 <| .nil _) rfl (leb rfl)) <| .o (op_b2s ud149 ud5 ud9 z0) <| .o (op_addS z6 z0 hu25) <| .o (op_assign z0) <| .n) fun n5 a w hst => ?_
   replace hst := hst.to [10] [_] [] rfl rfl
   refine hK8 _ _ ?_
   try clear hK8 K8
   refine wp_ret ?_
   obtain rfl := sj h
   exact ret_st undef [] hpl hst rfl (.tmp z0 .nil) rfl rfl rfl
noncomputable def gref09_DecimalN : Nat → Int → Option (Str)
 | 0 => fun _ => none
 | n + 1 => fref09_DecimalS (gref09_DecimalN n)
theorem gref09_DecimalN_ok : ∀ (n : Nat) (n_ : Int) (r : Str),gref09_DecimalN n n_ = some r → FnOk Tryz.prog 158 [ti n_] [] (fun _ => []) (fun _ => tv (.string (sB r)))
 | 0,_,r,h => by cases h
 | n + 1,n_,r,h => ref09_Decimal_okS (fun n_ r h => gref09_DecimalN_ok n n_ r h) h
noncomputable def fref09_Decimal (n_ : Int) : Option (Str) := gref09_DecimalN (n_.natAbs + 2) n_
theorem ref09_Decimal_ok {n_ : Int} {r : Str} (h : fref09_Decimal n_ = some r) : FnOk Tryz.prog 158 [ti n_] [] (fun _ => []) (fun _ => tv (.string (sB r))) := gref09_DecimalN_ok _ _ _ h

/- diorama/dioramaref09.and -/
noncomputable def fref09_and (s_ : Str) (n_ : Int) : Option (Str) := (cat (s_.length + ([32] : Str).length)).bind fun _ => (fref09_Decimal n_).bind fun t8 => (cat ((s_ ++ ([32] : Str)).length + t8.length)).bind fun _ => (some ((s_ ++ ([32] : Str)) ++ t8))
set_option maxRecDepth 100000 in
set_option maxHeartbeats 4000000 in
theorem ref09_and_ok {s_ : Str} {n_ : Int} {r : Str} (h : fref09_and s_ n_ = some r) : FnOk Tryz.prog 129 [tv (.string (sB s_)),ti n_] [] (fun _ => []) (fun _ => tv (.string (sB r))) := by
 unfold fref09_and at h
 refine FnOk.enter Tryz.func129 rfl Tryz.ntmps129 (leb rfl) (fun M0 M w0 a hpl hst => ?_)
 replace hst : St M w0 10 [(0,tv (.string (sB s_))),(1,ti n_)] [] a w0 := hst
 refine sr mixed [] hst (fun _ => .o (op_assign .k) <| .n) fun n0 a w hst => ?_
 replace hst := hst.to [1,2] [_,_] [] rfl rfl
 refine wp_seq_k (fun K2 hK2 => ?_)
 obtain ⟨u6,hu6,h⟩ := bind_some h
 obtain ⟨t8,ht8,h⟩ := bind_some h
 obtain ⟨u9,hu9,h⟩ := bind_some h
 refine wr mixed [] hst (fun _ => .q 0 rfl <| .o (op_addS z0 .k hu6) <| .q 3 rfl <| .o (op_callF call158 (ref09_Decimal_ok ht8) (.cons (.of z0) <| .nil)) <| .o (op_addS z2 z0 hu9) <| .o (op_assign z0) <| .n) fun n1 a w hst => ?_
 replace hst := hst.to [5] [_] [] rfl rfl
 refine hK2 _ _ ?_
 try clear hK2 K2
 refine wp_ret ?_
 obtain rfl := sj h
 exact ret_st undef [] hpl hst rfl (.tmp z0 .nil) rfl rfl rfl

/- diorama/dioramaref09.Words -/
noncomputable def fref09_Words  : Option ((List Str)) := (some [([107,101,121] : Str),([114,101,102] : Str),([110,117,109] : Str),([112,105,99,107] : Str),([100,97,121] : Str),([115,116,101,112] : Str),([115,117,109] : Str),([115,104,97,114,101] : Str),([99,111,112,121] : Str)])
set_option maxRecDepth 100000 in
set_option maxHeartbeats 4000000 in
theorem ref09_Words_ok {r : (List Str)} (h : fref09_Words  = some r) : FnOk Tryz.prog 159 [] [] (fun _ => []) (fun _ => tsl rS r) := by
 unfold fref09_Words at h
 refine FnOk.enter Tryz.func159 rfl Tryz.ntmps159 (leb rfl) (fun M0 M w0 a hpl hst => ?_)
 replace hst : St M w0 2 [] [] a w0 := hst
 refine sr mixed [] hst (fun _ => .o (op_assign (.nilsl (R := rS))) <| .n) fun n0 a w hst => ?_
 replace hst := hst.to [] [] [] rfl rfl
 refine sr mixed [] hst (fun _ => .o (op_buildSl (R := rS) (us := [([107,101,121] : Str),([114,101,102] : Str),([110,117,109] : Str),([112,105,99,107] : Str),([100,97,121] : Str),([115,116,101,112] : Str),([115,117,109] : Str),([115,104,97,114,101] : Str),([99,111,112,121] : Str)]) ud38 tok9 (.cons .k <| .cons .k <| .cons .k <| .cons .k <| .cons .k <| .cons .k <| .cons .k <| .cons .k <| .cons .k <| .nil _) rfl (leb rfl)) <| .o (op_assign z0) <| .n) fun n1 a w hst => ?_
 replace hst := hst.to [1] [_] [] rfl rfl
 refine wp_ret ?_
 obtain rfl := sj h
 exact ret_st undef [] hpl hst rfl (.tmp z0 .nil) rfl rfl rfl

/- diorama/dioramaref09.named -/
noncomputable def fref09_named (s_ : Str) : Option (Str) := (if (s_ == ([] : Str)) = true then (some ([45] : Str)) else (some s_))
set_option maxRecDepth 100000 in
set_option maxHeartbeats 4000000 in
theorem ref09_named_ok {s_ : Str} {r : Str} (h : fref09_named s_ = some r) : FnOk Tryz.prog 131 [tv (.string (sB s_))] [] (fun _ => []) (fun _ => tv (.string (sB r))) := by
 unfold fref09_named at h
 refine FnOk.enter Tryz.func131 rfl Tryz.ntmps131 (leb rfl) (fun M0 M w0 a hpl hst => ?_)
 replace hst : St M w0 6 [(0,tv (.string (sB s_)))] [] a w0 := hst
 refine sr mixed [] hst (fun _ => .o (op_assign .k) <| .n) fun n0 a w hst => ?_
 replace hst := hst.to [1] [_] [] rfl rfl
 refine wp_seq_k (fun K2 hK2 => ?_)
 refine sr mixed [] hst (fun _ => .q 0 rfl <| .o (op_eqlS z0 .k) <| .n) fun n1 a w hst => ?_
 replace hst := hst.to [1,2] [_,_] [] rfl rfl
 refine wt hst (fun b6 => ?_) (fun b6 => ?_)
 ·replace h := ite_t b6 h
  refine sr mixed [] hst (fun _ => .o (op_assign .k) <| .n) fun n2 a w hst => ?_
  replace hst := hst.to [0] [_] [] rfl rfl
  refine wp_ret ?_
  obtain rfl := sj h
  exact ret_st undef [] hpl hst rfl (.tmp z0 .nil) rfl rfl rfl
 ·replace h := ite_f b6 h
  refine wp_skip ?_
  refine hK2 _ _ ?_
  try clear hK2 K2
  refine sr mixed [] hst (fun _ => .q 1 rfl <| .o (op_assign z0) <| .n) fun n3 a w hst => ?_
  replace hst := hst.to [1] [_] [] rfl rfl
  refine wp_ret ?_
  obtain rfl := sj h
  exact ret_st undef [] hpl hst rfl (.tmp z0 .nil) rfl rfl rfl

/- diorama/dioramaref09.line -/
noncomputable def fref09_line (f_ : Sapi_Field) : Option (Str) := (fref09_Uses (f_).Kind).bind fun t13 => (fref09_Words).bind fun t19 => (idx t19 (f_).Kind).bind fun t22 => (cat (([10] : Str).length + t22.length)).bind fun _ => (cat ((([10] : Str) ++ t22).length + ([32] : Str).length)).bind fun _ => (cat (((([10] : Str) ++ t22) ++ ([32] : Str)).length + (f_).Name.length)).bind fun _ => ((if t13.2.1 = true then (cat ((((([10] : Str) ++ t22) ++ ([32] : Str)) ++ (f_).Name).length + ([32] : Str).length)).bind fun _ => (cat (((((([10] : Str) ++ t22) ++ ([32] : Str)) ++ (f_).Name) ++ ([32] : Str)).length + (f_).Up.length)).bind fun _ => (some (((((([10] : Str) ++ t22) ++ ([32] : Str)) ++ (f_).Name) ++ ([32] : Str)) ++ (f_).Up)) else (some (((([10] : Str) ++ t22) ++ ([32] : Str)) ++ (f_).Name)))).bind fun (p6 : Str) => ((if t13.1 = true then (cat (p6.length + ([32] : Str).length)).bind fun _ => (fref09_named (f_).Of).bind fun t40 => (cat ((p6 ++ ([32] : Str)).length + t40.length)).bind fun _ => (some ((p6 ++ ([32] : Str)) ++ t40)) else (some p6))).bind fun (p10 : Str) => ((if t13.2.2.1 = true then (fref09_and p10 (f_).Lo).bind fun t46 => (some t46) else (some p10))).bind fun (p14 : Str) => ((if t13.2.2.2.1 = true then (fref09_and p14 (f_).Hi).bind fun t51 => (some t51) else (some p14))).bind fun (p18 : Str) => ((if t13.2.2.2.2 = true then (fref09_and p18 ((f_).Words.length : Int)).bind fun t57 => (tailrec (fun (s45 : Int × Str) => ((if (decide (s45.1 < ((f_).Words.length : Int))) = true then (cat (s45.2.length + ([32] : Str).length)).bind fun _ => (idx (f_).Words s45.1).bind fun t70 => (cat ((s45.2 ++ ([32] : Str)).length + t70.length)).bind fun _ => (idx (f_).Weights s45.1).bind fun t76 => (fref09_and ((s45.2 ++ ([32] : Str)) ++ t70) t76).bind fun t78 => (some (.inl ((IntKind.i64.wrap (s45.1 + (1:Int))),t78))) else (some (.inr s45.2))) : Option ((Int × Str) ⊕ ((Str))))) ((0:Int),t57)).bind fun (p51 : (Str)) => (some p51) else (some p18))).bind fun (p22 : Str) => (some p22)
set_option maxRecDepth 100000 in
set_option maxHeartbeats 4000000 in
theorem ref09_line_ok {f_ : Sapi_Field} {r : Str} (h : fref09_line f_ = some r) : FnOk Tryz.prog 130 [rSapi_Field.ty f_] [] (fun _ => []) (fun _ => tv (.string (sB r))) := by
 unfold fref09_line at h
 refine FnOk.enter Tryz.func130 rfl Tryz.ntmps130 (leb rfl) (fun M0 M w0 a hpl hst => ?_)
 replace hst : St M w0 80 [(0,rSapi_Field.ty f_)] [] a w0 := hst
 refine sr mixed [] hst (fun _ => .o (op_boxR (R := rSapi_Field) (u := f_) z0) <| .o (op_assign .k) <| .n) fun n0 a w hst => ?_
 replace hst := hst.to [0] [_] [] rfl rfl
 obtain ⟨t13,ht13,h⟩ := bind_some h
 refine sr mixed [] hst (fun _ => .o (op_field fld44_3 z0) <| .o (op_loadT (R := rI) (u := (f_).Kind) tok3 z0 rfl) <| .o (op_callF call156 (ref09_Uses_ok ht13) (.cons (.of z0) <| .nil)) <| .q 0 rfl <| .o (op_extract z0 rfl) <| .o (op_extract z1 rfl) <| .o (op_extract z2 rfl) <| .o (op_extract z3 rfl) <| .o (op_extract z4 rfl) <| .o (op_assign z4) <| .o (op_assign z4) <| .o (op_assign z4) <| .o (op_assign z4) <| .o (op_assign z4) <| .n) fun n1 a w hst => ?_
 replace hst := hst.to [9,10,11,12,13,14] [_,_,_,_,_,_] [] rfl rfl
 refine wp_seq_k (fun K3 hK3 => ?_)
 obtain ⟨t19,ht19,h⟩ := bind_some h
 obtain ⟨t22,ht22,h⟩ := bind_some h
 obtain ⟨u24,hu24,h⟩ := bind_some h
 obtain ⟨u25,hu25,h⟩ := bind_some h
 obtain ⟨u28,hu28,h⟩ := bind_some h
 refine wr mixed [] hst (fun _ => .o (op_callF call159 (ref09_Words_ok ht19) (.nil)) <| .o (op_field fld44_3 z6) <| .o (op_loadT (R := rI) (u := (f_).Kind) tok3 z0 rfl) <| .o (op_index ud38 tok9 z2 z0 ht22) <| .o (op_load tok9 z0) <| .o (op_addS .k z0 hu24) <| .o (op_addS z0 .k hu25) <| .o (op_field fld44_0 z12) <| .o (op_loadT (R := rS) (u := (f_).Name) tok9 z0 rfl) <| .o (op_addS z2 z0 hu28) <| .o (op_assign z0) <| .n) fun n2 a w hst => ?_
 replace hst := hst.to [10,11,12,13,14,15,16] [_,_,_,_,_,_,_] [] rfl rfl
 refine hK3 _ _ ?_
 try clear hK3 K3
 refine wp_seq_k (fun K4 hK4 => ?_)
 refine sr mixed [] hst (fun _ => .q 2 rfl <| .n) fun n3 a w hst => ?_
 replace hst := hst.to [0,1,2,4,5,6,7] [_,_,_,_,_,_,_] [] rfl rfl
 obtain ⟨p6,hp6,h⟩ := bind_some h
 have hJp6 : ∀ a w,St M w0 80 [(8,tv (.string (sB p6))),(3,tb t13.1),(5,tb t13.2.2.1),(6,tb t13.2.2.2.1),(7,tb t13.2.2.2.2),(1,tptr (rSapi_Field.cs f_))] [] a w → K4 a w := by
  intro a w hst
  refine hK4 _ _ ?_
  try clear hK4 K4
  refine wp_seq_k (fun K8 hK8 => ?_)
  refine sr mixed [] hst (fun _ => .q 1 rfl <| .n) fun n5 a w hst => ?_
  replace hst := hst.to [0,1,3,4,5,6] [_,_,_,_,_,_] [] rfl rfl
  obtain ⟨p10,hp10,h⟩ := bind_some h
  have hJp10 : ∀ a w,St M w0 80 [(8,tv (.string (sB p10))),(5,tb t13.2.2.1),(6,tb t13.2.2.2.1),(7,tb t13.2.2.2.2),(1,tptr (rSapi_Field.cs f_))] [] a w → K8 a w := by
   intro a w hst
   refine hK8 _ _ ?_
   try clear hK8 K8
   refine wp_seq_k (fun K12 hK12 => ?_)
   refine sr mixed [] hst (fun _ => .q 1 rfl <| .n) fun n7 a w hst => ?_
   replace hst := hst.to [0,1,3,4,5] [_,_,_,_,_] [] rfl rfl
   obtain ⟨p14,hp14,h⟩ := bind_some h
   have hJp14 : ∀ a w,St M w0 80 [(8,tv (.string (sB p14))),(6,tb t13.2.2.2.1),(7,tb t13.2.2.2.2),(1,tptr (rSapi_Field.cs f_))] [] a w → K12 a w := by
    intro a w hst
    refine hK12 _ _ ?_
    try clear hK12 K12
    refine wp_seq_k (fun K16 hK16 => ?_)
    refine sr mixed [] hst (fun _ => .q 1 rfl <| .n) fun n9 a w hst => ?_
    replace hst := hst.to [0,1,3,4] [_,_,_,_] [] rfl rfl
    obtain ⟨p18,hp18,h⟩ := bind_some h
    have hJp18 : ∀ a w,St M w0 80 [(8,tv (.string (sB p18))),(7,tb t13.2.2.2.2),(1,tptr (rSapi_Field.cs f_))] [] a w → K16 a w := by
     intro a w hst
     refine hK16 _ _ ?_
     try clear hK16 K16
     refine wp_seq_k (fun K20 hK20 => ?_)
     refine sr mixed [] hst (fun _ => .q 1 rfl <| .n) fun n11 a w hst => ?_
     replace hst := hst.to [0,1,3] [_,_,_] [] rfl rfl
     obtain ⟨p22,hp22,h⟩ := bind_some h
     have hJp22 : ∀ a w,St M w0 80 [(8,tv (.string (sB p22)))] [] a w → K20 a w := by
      intro a w hst
      refine hK20 _ _ ?_
      try clear hK20 K20
      refine sr mixed [] hst (fun _ => .q 0 rfl <| .o (op_assign z0) <| .n) fun n17 a w hst => ?_
      replace hst := hst.to [1] [_] [] rfl rfl
      refine wp_ret ?_
      obtain rfl := sj h
      exact ret_st undef [] hpl hst rfl (.tmp z0 .nil) rfl rfl rfl
     replace h := hp22
     clear hp22
     refine wt hst (fun b57 => ?_) (fun b57 => ?_)
     ·replace h := ite_t b57 h
      obtain ⟨t57,ht57,h⟩ := bind_some h
      refine sr mixed [] hst (fun _ => .q 1 rfl <| .o (op_field fld44_6 z3) <| .o (op_loadT (R := (rSl rS)) (u := (f_).Words) tok38 z0 rfl) <| .o (op_len ud38 z0) <| .o (op_callF call129 (ref09_and_ok ht57) (.cons (.of z3) <| .cons (.of z0) <| .nil)) <| .o (op_assign z0) <| .n) fun n12 a w hst => ?_
      replace hst := hst.to [5,7] [_,_] [] rfl rfl
      refine sr mixed [] hst (fun _ => .o (op_assign .k) <| .n) fun n13 a w hst => ?_
      replace hst := hst.to [0,1,2] [_,_,_] [] rfl rfl
      obtain ⟨e46,he46,h⟩ := bind_some h
      have hJp51 : ∀ (p51 : Str) a w,p51 = e46 → St M w0 80 [(8,tv (.string (sB p51)))] [] a w → K20 a w := by
       intro p51 a w he hst
       subst he
       obtain rfl := sj h
       exact hJp22 _ _ (hst.pick [0])
      refine wp_block ?_
      refine wp_loopK _ (fun (s45 : Int × Str) a w => St M w0 80 [(9,ti s45.1),(8,tv (.string (sB s45.2))),(1,tptr (rSapi_Field.cs f_))] [] a w) _ _ he46 (hst.pick [0,1,2]) ?_
      clear h
      intro s45 o a w K52 hI h ho hK52
      have hst := hI
      clear hI
      refine wp_seq_k (fun K53 hK53 => ?_)
      refine sr mixed [] hst (fun _ => .q 0 rfl <| .o (op_field fld44_6 z3) <| .o (op_loadT (R := (rSl rS)) (u := (f_).Words) tok38 z0 rfl) <| .o (op_len ud38 z0) <| .o (op_lss z3 z0) <| .n) fun n14 a w hst => ?_
      replace hst := hst.to [4,5,6,7] [_,_,_,_] [] rfl rfl
      refine wt hst (fun b56 => ?_) (fun b56 => ?_)
      ·replace h := ite_t b56 h
       refine wp_skip ?_
       refine hK53 _ _ ?_
       try clear hK53 K53
       refine wp_seq_k (fun K55 hK55 => ?_)
       refine wp_block ?_
       obtain ⟨u66,hu66,h⟩ := bind_some h
       obtain ⟨t70,ht70,h⟩ := bind_some h
       obtain ⟨u72,hu72,h⟩ := bind_some h
       obtain ⟨t76,ht76,h⟩ := bind_some h
       obtain ⟨t78,ht78,h⟩ := bind_some h
       refine wr mixed [] hst (fun _ => .q 2 rfl <| .o (op_addS z0 .k hu66) <| .o (op_field fld44_6 z5) <| .o (op_loadT (R := (rSl rS)) (u := (f_).Words) tok38 z0 rfl) <| .q 5 rfl <| .o (op_index ud38 tok9 z1 z0 ht70) <| .o (op_load tok9 z0) <| .o (op_addS z5 z0 hu72) <| .o (op_field fld44_7 z11) <| .o (op_loadT (R := (rSl rI)) (u := (f_).Weights) tok22 z0 rfl) <| .q 11 rfl <| .o (op_index ud22 tok3 z1 z0 ht76) <| .o (op_load tok3 z0) <| .o (op_callF call129 (ref09_and_ok ht78) (.cons (.of z5) <| .cons (.of z0) <| .nil)) <| .o (op_assign z0) <| .n) fun n16 a w hst => ?_
       replace hst := hst.to [14,16,17] [_,_,_] [] rfl rfl
       refine hK55 _ _ ?_
       try clear hK55 K55
       refine wr mixed [] hst (fun _ => .q 1 rfl <| .o (op_add z0 .k) <| .o (op_assign z0) <| .n) fun n15 a w hst => ?_
       replace hst := hst.to [2,3,4] [_,_,_] [] rfl rfl
       exact hK52 _ _ _ (sj h).symm (hst.pick [0,1,2])
      ·replace h := ite_f b56 h
       refine wp_exit ?_
       exact hJp51 _ _ _ (ho _ (sj h).symm) (hst.pick [2])
     ·replace h := ite_f b57 h
      refine wp_skip ?_
      obtain rfl := sj h
      exact hJp22 _ _ (hst.pick [1])
    replace h := hp18
    clear hp18
    refine wt hst (fun b58 => ?_) (fun b58 => ?_)
    ·replace h := ite_t b58 h
     obtain ⟨t51,ht51,h⟩ := bind_some h
     refine wr mixed [] hst (fun _ => .q 1 rfl <| .o (op_field fld44_5 z4) <| .o (op_loadT (R := rI) (u := (f_).Hi) tok3 z0 rfl) <| .o (op_callF call129 (ref09_and_ok ht51) (.cons (.of z2) <| .cons (.of z0) <| .nil)) <| .o (op_assign z0) <| .n) fun n10 a w hst => ?_
     replace hst := hst.to [4,6,7] [_,_,_] [] rfl rfl
     obtain rfl := sj h
     exact hJp18 _ _ (hst.pick [0,1,2])
    ·replace h := ite_f b58 h
     refine wp_skip ?_
     obtain rfl := sj h
     exact hJp18 _ _ (hst.pick [1,2,3])
   replace h := hp14
   clear hp14
   refine wt hst (fun b59 => ?_) (fun b59 => ?_)
   ·replace h := ite_t b59 h
    obtain ⟨t46,ht46,h⟩ := bind_some h
    refine wr mixed [] hst (fun _ => .q 1 rfl <| .o (op_field fld44_4 z5) <| .o (op_loadT (R := rI) (u := (f_).Lo) tok3 z0 rfl) <| .o (op_callF call129 (ref09_and_ok ht46) (.cons (.of z2) <| .cons (.of z0) <| .nil)) <| .o (op_assign z0) <| .n) fun n8 a w hst => ?_
    replace hst := hst.to [4,6,7,8] [_,_,_,_] [] rfl rfl
    obtain rfl := sj h
    exact hJp14 _ _ (hst.pick [0,1,2,3])
   ·replace h := ite_f b59 h
    refine wp_skip ?_
    obtain rfl := sj h
    exact hJp14 _ _ (hst.pick [1,2,3,4])
  replace h := hp10
  clear hp10
  refine wt hst (fun b60 => ?_) (fun b60 => ?_)
  ·replace h := ite_t b60 h
   obtain ⟨u37,hu37,h⟩ := bind_some h
   obtain ⟨t40,ht40,h⟩ := bind_some h
   obtain ⟨u41,hu41,h⟩ := bind_some h
   refine wr mixed [] hst (fun _ => .q 1 rfl <| .o (op_addS z0 .k hu37) <| .o (op_field fld44_1 z7) <| .o (op_loadT (R := rS) (u := (f_).Of) tok9 z0 rfl) <| .o (op_callF call131 (ref09_named_ok ht40) (.cons (.of z0) <| .nil)) <| .o (op_addS z3 z0 hu41) <| .o (op_assign z0) <| .n) fun n6 a w hst => ?_
   replace hst := hst.to [6,8,9,10,11] [_,_,_,_,_] [] rfl rfl
   obtain rfl := sj h
   exact hJp10 _ _ (hst.pick [0,1,2,3,4])
  ·replace h := ite_f b60 h
   refine wp_skip ?_
   obtain rfl := sj h
   exact hJp10 _ _ (hst.pick [1,2,3,4,5])
 replace h := hp6
 clear hp6
 refine wt hst (fun b61 => ?_) (fun b61 => ?_)
 ·replace h := ite_t b61 h
  obtain ⟨u31,hu31,h⟩ := bind_some h
  obtain ⟨u34,hu34,h⟩ := bind_some h
  refine wr mixed [] hst (fun _ => .q 1 rfl <| .o (op_addS z0 .k hu31) <| .o (op_field fld44_2 z8) <| .o (op_loadT (R := rS) (u := (f_).Up) tok9 z0 rfl) <| .o (op_addS z2 z0 hu34) <| .o (op_assign z0) <| .n) fun n4 a w hst => ?_
  replace hst := hst.to [5,7,8,9,10,11] [_,_,_,_,_,_] [] rfl rfl
  obtain rfl := sj h
  exact hJp6 _ _ (hst.pick [0,1,2,3,4,5])
 ·replace h := ite_f b61 h
  refine wp_skip ?_
  obtain rfl := sj h
  exact hJp6 _ _ (hst.pick [1,2,3,4,5,6])

end Go.Proofs.YthdfmpocknmleaaGreatDoor
