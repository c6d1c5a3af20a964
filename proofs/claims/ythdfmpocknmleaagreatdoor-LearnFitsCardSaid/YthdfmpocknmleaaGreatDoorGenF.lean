/- Go functions as Lean functions, and the proofs that they compute them, written by a program. No condition. -/
import Derived.Test.YthdfmpocknmleaaGreatDoorGenE
namespace Go.Proofs.YthdfmpocknmleaaGreatDoor
open Go.Sim

/- diorama/typing.Up -/
noncomputable def ftyping_UpS (self : Sapi_Schema → Int → Int → Option (Int)) (x_ : Sapi_Schema) (kind_ : Int) (field_ : Int) : Option (Int) := (ftyping_at x_ kind_ field_).bind fun t17 => (if (!t17.2) = true then (some (-1:Int)) else (if (((t17.1).Kind == (7:Int)) || ((t17.1).Kind == (8:Int))) = true then (idx (x_).Kinds kind_).bind fun t35 => (ftyping_Field t35 (t17.1).Up).bind fun t39 => (ftyping_at x_ kind_ t39).bind fun t44 => (if ((t44.2 && (decide (t39 < field_))) && ((t44.1).Kind == (1:Int))) = true then (self x_ kind_ t39).bind fun t61 => (some t61) else (some (-1:Int))) else (if ((t17.1).Kind != (1:Int)) = true then (some (-1:Int)) else (ftyping_Kind x_ (t17.1).Of).bind fun t69 => (if (decide (t69 < kind_)) = true then (some t69) else (some (-1:Int))))))
set_option maxRecDepth 100000 in
set_option maxHeartbeats 4000000 in
theorem typing_Up_okS {self : Sapi_Schema → Int → Int → Option (Int)} (hself : ∀ (x_ : Sapi_Schema) (kind_ : Int) (field_ : Int) (r : Int),self x_ kind_ field_ = some r → FnOk Tryz.prog 15 [rSapi_Schema.ty x_,ti kind_,ti field_] [] (fun _ => []) (fun _ => ti r)) {x_ : Sapi_Schema} {kind_ : Int} {field_ : Int} {r : Int} (h : ftyping_UpS self x_ kind_ field_ = some r) : FnOk Tryz.prog 15 [rSapi_Schema.ty x_,ti kind_,ti field_] [] (fun _ => []) (fun _ => ti r) := by
 unfold ftyping_UpS at h
 refine FnOk.enter Tryz.func15 rfl Tryz.ntmps15 (leb rfl) (fun M0 M w0 a hpl hst => ?_)
 replace hst : St M w0 74 [(0,rSapi_Schema.ty x_),(1,ti kind_),(2,ti field_)] [] a w0 := hst
 refine sr mixed [] hst (fun _ => .o (op_boxR (R := rSapi_Schema) (u := x_) z0) <| .o (op_assign .k) <| .n) fun n0 a w hst => ?_
 replace hst := hst.to [0,3,4] [_,_,_] [] rfl rfl
 obtain ⟨t17,ht17,h⟩ := bind_some h
 refine sr mixed [v1 7 (fun v0 => box (rSapi_Field.cs zz0) v0),v1 7 (fun v0 => box (rSapi_Field.cs t17.1) v0)] hst (fun _ => .o (op_load tok34 z0) <| .q 2 rfl <| .q 4 rfl <| .o (op_callF call44 (typing_at_ok ht17) (.cons (.of z2) <| .cons (.of z1) <| .cons (.of z0) <| .nil)) <| .q 0 rfl <| .o (op_extract z0 rfl) <| .o (op_extract z1 rfl) <| .m [] [0] rfl rfl rfl (op_alloc (R := rSapi_Field) (a := zz0) tok44 zok44) <| .e [] [0] [1] rfl rfl rfl rfl (op_storeB (R := rSapi_Field) (a := t17.1) tok44 z0 z2 (leb rfl)) <| .o (op_assign z1) <| .n) fun n1 a w hst => ?_
 replace hst : St _ _ _ [_,_,_,_,_] [] _ _ := (((hst.pick [7,8,9,10,11]).shareB 0 rfl).add 0 rfl (fun _ _ _ h => h.2)).pick [0,3,4,5,6]
 refine wp_seq_k (fun K4 hK4 => ?_)
 refine wp_block ?_
 refine sr mixed [] hst (fun _ => .q 1 rfl <| .o (op_not z0) <| .o (op_assign z0) <| .n) fun n2 a w hst => ?_
 replace hst := hst.to [2,3,5,6,7] [_,_,_,_,_] [] rfl rfl
 refine wt hst (fun b26 => ?_) (fun b26 => ?_)
 ·replace h := ite_t b26 h
  refine sr mixed [] hst (fun _ => .o (op_assign .k) <| .n) fun n3 a w hst => ?_
  replace hst := hst.to [0] [_] [] rfl rfl
  refine wp_ret ?_
  obtain rfl := sj h
  exact ret_st undef [] hpl hst rfl (.tmp z0 .nil) rfl rfl rfl
 ·replace h := ite_f b26 h
  refine sr mixed [] hst (fun _ => .o (op_field fld44_3 z1) <| .o (op_loadT (R := rI) (u := (t17.1).Kind) tok3 z0 rfl) <| .o (op_eql z0 .k) <| .q 0 rfl <| .g rfl rfl (.b 0 rfl) (fun _ => op_field fld44_3 z5) <| .g rfl rfl (.b 1 rfl) (fun hc => op_loadT (R := rI) (u := (t17.1).Kind) tok3 (.cond z0 hc) rfl) <| .g rfl rfl (.b 2 rfl) (fun hc => op_eql (.cond z0 hc) .k) <| .o (op_or z3 (fun hp => (.cond z0 (beqF hp)))) <| .o (op_assign z0) <| .n) fun n4 a w hst => ?_
  replace hst := hst.to [8,10,11,12,13] [_,_,_,_,_] [] rfl rfl
  refine wt hst (fun b25 => ?_) (fun b25 => ?_)
  ·replace h := ite_t b25 h
   obtain ⟨t35,ht35,h⟩ := bind_some h
   obtain ⟨t39,ht39,h⟩ := bind_some h
   refine sr mixed [] hst (fun _ => .o (op_field fld34_1 z2) <| .o (op_loadT (R := (rSl rSapi_Kind)) (u := (x_).Kinds) tok30 z0 rfl) <| .q 5 rfl <| .o (op_index ud30 tok47 z1 z0 ht35) <| .o (op_load tok47 z0) <| .o (op_field fld44_2 z6) <| .o (op_loadT (R := rS) (u := (t17.1).Up) tok9 z0 rfl) <| .o (op_callF call20 (typing_Field_ok ht39) (.cons (.of z2) <| .cons (.of z0) <| .nil)) <| .o (op_assign z0) <| .n) fun n5 a w hst => ?_
   replace hst := hst.to [8,11,12,13] [_,_,_,_] [] rfl rfl
   refine wp_seq_k (fun K9 hK9 => ?_)
   obtain ⟨t44,ht44,h⟩ := bind_some h
   refine sr mixed [v1 7 (fun v0 => box (rSapi_Field.cs zz0) v0),v1 7 (fun v0 => box (rSapi_Field.cs t44.1) v0)] hst (fun _ => .o (op_load tok34 z1) <| .q 3 rfl <| .q 2 rfl <| .o (op_callF call44 (typing_at_ok ht44) (.cons (.of z2) <| .cons (.of z1) <| .cons (.of z0) <| .nil)) <| .q 0 rfl <| .o (op_extract z0 rfl) <| .o (op_extract z1 rfl) <| .m [] [0] rfl rfl rfl (op_alloc (R := rSapi_Field) (a := zz0) tok44 zok44) <| .e [] [0] [1] rfl rfl rfl rfl (op_storeB (R := rSapi_Field) (a := t44.1) tok44 z0 z2 (leb rfl)) <| .o (op_assign z1) <| .n) fun n6 a w hst => ?_
   replace hst : St _ _ _ [_,_,_,_,_,_] [] _ _ := (((hst.pick [7,8,9,10,11,12]).shareB 0 rfl).add 0 rfl (fun _ _ _ h => h.2)).pick [0,3,4,5,6,7]
   refine sr mixed [] hst (fun _ => .q 1 rfl <| .q 0 rfl <| .g rfl rfl (.b 0 rfl) (fun _ => op_move z4) <| .g rfl rfl (.b 1 rfl) (fun _ => op_move z8) <| .g rfl rfl (.b 2 rfl) (fun hc => op_lss (.cond z1 hc) (.cond z0 hc)) <| .o (op_and z3 (fun hp => (.cond z0 (beqT hp)))) <| .q 0 rfl <| .g rfl rfl (.b 0 rfl) (fun _ => op_field fld44_3 z7) <| .g rfl rfl (.b 1 rfl) (fun hc => op_loadT (R := rI) (u := (t44.1).Kind) tok3 (.cond z0 hc) rfl) <| .g rfl rfl (.b 2 rfl) (fun hc => op_eql (.cond z0 hc) .k) <| .o (op_and z3 (fun hp => (.cond z0 (beqT hp)))) <| .n) fun n7 a w hst => ?_
   replace hst := hst.to [10,13,14,15] [_,_,_,_] [] rfl rfl
   refine wt hst (fun b15 => ?_) (fun b15 => ?_)
   ·replace h := ite_t b15 h
    obtain ⟨t61,ht61,h⟩ := bind_some h
    refine sr mixed [] hst (fun _ => .o (op_load tok34 z2) <| .q 4 rfl <| .q 3 rfl <| .o (op_callF call15 (hself _ _ _ _ ht61) (.cons (.of z2) <| .cons (.of z1) <| .cons (.of z0) <| .nil)) <| .o (op_assign z0) <| .n) fun n8 a w hst => ?_
    replace hst := hst.to [4] [_] [] rfl rfl
    refine wp_ret ?_
    obtain rfl := sj h
    exact ret_st undef [] hpl hst rfl (.tmp z0 .nil) rfl rfl rfl
   ·replace h := ite_f b15 h
    refine wp_skip ?_
    refine hK9 _ _ ?_
    try clear hK9 K9
    refine sr mixed [] hst (fun _ => .o (op_assign .k) <| .n) fun n9 a w hst => ?_
    replace hst := hst.to [0] [_] [] rfl rfl
    refine wp_ret ?_
    obtain rfl := sj h
    exact ret_st undef [] hpl hst rfl (.tmp z0 .nil) rfl rfl rfl
  ·replace h := ite_f b25 h
   refine sr mixed [] hst (fun _ => .o (op_field fld44_3 z1) <| .o (op_loadT (R := rI) (u := (t17.1).Kind) tok3 z0 rfl) <| .o (op_neq z0 .k) <| .o (op_assign z0) <| .n) fun n10 a w hst => ?_
   replace hst := hst.to [3,5,6,7] [_,_,_,_] [] rfl rfl
   refine wt hst (fun b24 => ?_) (fun b24 => ?_)
   ·replace h := ite_t b24 h
    refine sr mixed [] hst (fun _ => .o (op_assign .k) <| .n) fun n11 a w hst => ?_
    replace hst := hst.to [0] [_] [] rfl rfl
    refine wp_ret ?_
    obtain rfl := sj h
    exact ret_st undef [] hpl hst rfl (.tmp z0 .nil) rfl rfl rfl
   ·replace h := ite_f b24 h
    refine wp_skip ?_
    refine hK4 _ _ ?_
    try clear hK4 K4
    refine wp_seq_k (fun K18 hK18 => ?_)
    obtain ⟨t69,ht69,h⟩ := bind_some h
    refine sr mixed [] hst (fun _ => .o (op_load tok34 z2) <| .o (op_field fld44_1 z2) <| .o (op_loadT (R := rS) (u := (t17.1).Of) tok9 z0 rfl) <| .o (op_callF call18 (typing_Kind_ok ht69) (.cons (.of z2) <| .cons (.of z0) <| .nil)) <| .o (op_assign z0) <| .n) fun n12 a w hst => ?_
    replace hst := hst.to [4,8] [_,_] [] rfl rfl
    refine sr mixed [] hst (fun _ => .q 0 rfl <| .q 2 rfl <| .o (op_lss z1 z0) <| .n) fun n13 a w hst => ?_
    replace hst := hst.to [2,3] [_,_] [] rfl rfl
    refine wt hst (fun b23 => ?_) (fun b23 => ?_)
    ·replace h := ite_t b23 h
     refine sr mixed [] hst (fun _ => .q 1 rfl <| .o (op_assign z0) <| .n) fun n14 a w hst => ?_
     replace hst := hst.to [1] [_] [] rfl rfl
     refine wp_ret ?_
     obtain rfl := sj h
     exact ret_st undef [] hpl hst rfl (.tmp z0 .nil) rfl rfl rfl
    ·replace h := ite_f b23 h
     refine wp_skip ?_
     refine hK18 _ _ ?_
     try clear hK18 K18
     refine sr mixed [] hst (fun _ => .o (op_assign .k) <| .n) fun n15 a w hst => ?_
     replace hst := hst.to [0] [_] [] rfl rfl
     refine wp_ret ?_
     obtain rfl := sj h
     exact ret_st undef [] hpl hst rfl (.tmp z0 .nil) rfl rfl rfl
noncomputable def gtyping_UpN : Nat → Sapi_Schema → Int → Int → Option (Int)
 | 0 => fun _ _ _ => none
 | n + 1 => ftyping_UpS (gtyping_UpN n)
theorem gtyping_UpN_ok : ∀ (n : Nat) (x_ : Sapi_Schema) (kind_ : Int) (field_ : Int) (r : Int),gtyping_UpN n x_ kind_ field_ = some r → FnOk Tryz.prog 15 [rSapi_Schema.ty x_,ti kind_,ti field_] [] (fun _ => []) (fun _ => ti r)
 | 0,_,_,_,r,h => by cases h
 | n + 1,x_,kind_,field_,r,h => typing_Up_okS (fun x_ kind_ field_ r h => gtyping_UpN_ok n x_ kind_ field_ r h) h
noncomputable def ftyping_Up (x_ : Sapi_Schema) (kind_ : Int) (field_ : Int) : Option (Int) := gtyping_UpN (field_.natAbs + 2) x_ kind_ field_
theorem typing_Up_ok {x_ : Sapi_Schema} {kind_ : Int} {field_ : Int} {r : Int} (h : ftyping_Up x_ kind_ field_ = some r) : FnOk Tryz.prog 15 [rSapi_Schema.ty x_,ti kind_,ti field_] [] (fun _ => []) (fun _ => ti r) := gtyping_UpN_ok _ _ _ _ _ h

/- (diorama/typing.spot).lost -/
noncomputable def ftyping_spot_lost (s_ : Styping_spot) : Option (Bool) := (ftyping_Up (s_).x (s_).kind (s_).field).bind fun t9 => (some (decide (t9 < (0:Int))))
set_option maxRecDepth 100000 in
set_option maxHeartbeats 4000000 in
theorem typing_spot_lost_ok {s_ : Styping_spot} {r : Bool} (h : ftyping_spot_lost s_ = some r) : FnOk Tryz.prog 193 [rStyping_spot.ty s_] [] (fun _ => []) (fun _ => tb r) := by
 unfold ftyping_spot_lost at h
 refine FnOk.enter Tryz.func193 rfl Tryz.ntmps193 (leb rfl) (fun M0 M w0 a hpl hst => ?_)
 replace hst : St M w0 11 [(0,rStyping_spot.ty s_)] [] a w0 := hst
 refine sr mixed [] hst (fun _ => .o (op_boxR (R := rStyping_spot) (u := s_) z0) <| .o (op_assign .k) <| .n) fun n0 a w hst => ?_
 replace hst := hst.to [0] [_] [] rfl rfl
 obtain ⟨t9,ht9,h⟩ := bind_some h
 refine sr mixed [] hst (fun _ => .o (op_field fld79_0 z0) <| .o (op_loadT (R := rSapi_Schema) (u := (s_).x) tok34 z0 rfl) <| .o (op_field fld79_1 z2) <| .o (op_loadT (R := rI) (u := (s_).kind) tok3 z0 rfl) <| .o (op_field fld79_2 z4) <| .o (op_loadT (R := rI) (u := (s_).field) tok3 z0 rfl) <| .o (op_callF call15 (typing_Up_ok ht9) (.cons (.of z4) <| .cons (.of z2) <| .cons (.of z0) <| .nil)) <| .o (op_lss z0 .k) <| .o (op_assign z0) <| .n) fun n1 a w hst => ?_
 replace hst := hst.to [8] [_] [] rfl rfl
 refine wp_ret ?_
 obtain rfl := sj h
 exact ret_st undef [] hpl hst rfl (.tmp z0 .nil) rfl rfl rfl

/- diorama/typing.checks$2 -/
noncomputable def ftyping_checksq2 (s_ : Styping_spot) : Option (Int) := (ftyping_spot_lost s_).bind fun t4 => (ftyping_first [(Styping_fault.mk t4 (12:Int))]).bind fun t7 => (some t7)
set_option maxRecDepth 100000 in
set_option maxHeartbeats 4000000 in
theorem typing_checksq2_ok {s_ : Styping_spot} {r : Int} (h : ftyping_checksq2 s_ = some r) : FnOk Tryz.prog 197 [rStyping_spot.ty s_] [] (fun _ => []) (fun _ => ti r) := by
 unfold ftyping_checksq2 at h
 refine FnOk.enter Tryz.func197 rfl Tryz.ntmps197 (leb rfl) (fun M0 M w0 a hpl hst => ?_)
 replace hst : St M w0 8 [(0,rStyping_spot.ty s_)] [] a w0 := hst
 refine sr mixed [] hst (fun _ => .o (op_boxR (R := rStyping_spot) (u := s_) z0) <| .o (op_assign .k) <| .n) fun n0 a w hst => ?_
 replace hst := hst.to [0] [_] [] rfl rfl
 obtain ⟨t4,ht4,h⟩ := bind_some h
 obtain ⟨t7,ht7,h⟩ := bind_some h
 refine sr mixed [] hst (fun _ => .o (op_load tok79 z0) <| .o (op_callF call193 (typing_spot_lost_ok ht4) (.cons (.of z0) <| .nil)) <| .p (T := rStyping_fault.ty (Styping_fault.mk t4 (12:Int))) rfl (op_build ud72 pl72 zv72 zc72 (.cons (R := rBool) (u := t4) rfl z0 (leb rfl) <| .cons (R := rI) (u := (12:Int)) rfl .k (leb rfl) <| .nil _)) <| .o (op_buildSl (R := rStyping_fault) (us := [(Styping_fault.mk t4 (12:Int))]) ud135 tok72 (.cons z0 <| .nil _) rfl (leb rfl)) <| .o (op_callF call35 (typing_first_ok ht7) (.cons (.of z0) <| .nil)) <| .o (op_assign z0) <| .n) fun n1 a w hst => ?_
 replace hst := hst.to [5] [_] [] rfl rfl
 refine wp_ret ?_
 obtain rfl := sj h
 exact ret_st undef [] hpl hst rfl (.tmp z0 .nil) rfl rfl rfl

/- diorama/typing.checks$3 -/
noncomputable def ftyping_checksq3 (s_ : Styping_spot) : Option (Int) := (idx ((s_).x).Kinds (s_).kind).bind fun t11 => (ftyping_Field t11 ((s_).f).Of).bind fun t16 => (ftyping_at (s_).x (s_).kind t16).bind fun t23 => (ftyping_first [(Styping_fault.mk ((((s_).f).Of != ([] : Str)) && (((decide (t16 < (0:Int))) || (decide (t16 ≥ (s_).field))) || ((t23.1).Kind != (4:Int)))) (12:Int))]).bind fun t47 => (some t47)
set_option maxRecDepth 100000 in
set_option maxHeartbeats 4000000 in
theorem typing_checksq3_ok {s_ : Styping_spot} {r : Int} (h : ftyping_checksq3 s_ = some r) : FnOk Tryz.prog 198 [rStyping_spot.ty s_] [] (fun _ => []) (fun _ => ti r) := by
 unfold ftyping_checksq3 at h
 refine FnOk.enter Tryz.func198 rfl Tryz.ntmps198 (leb rfl) (fun M0 M w0 a hpl hst => ?_)
 replace hst : St M w0 48 [(0,rStyping_spot.ty s_)] [] a w0 := hst
 refine sr mixed [] hst (fun _ => .o (op_boxR (R := rStyping_spot) (u := s_) z0) <| .o (op_assign .k) <| .n) fun n0 a w hst => ?_
 replace hst := hst.to [0] [_] [] rfl rfl
 obtain ⟨t11,ht11,h⟩ := bind_some h
 obtain ⟨t16,ht16,h⟩ := bind_some h
 refine sr mixed [] hst (fun _ => .o (op_field fld79_0 z0) <| .o (op_field fld34_1 z0) <| .o (op_loadT (R := (rSl rSapi_Kind)) (u := ((s_).x).Kinds) tok30 z0 rfl) <| .o (op_field fld79_1 z3) <| .o (op_loadT (R := rI) (u := (s_).kind) tok3 z0 rfl) <| .o (op_index ud30 tok47 z2 z0 ht11) <| .o (op_load tok47 z0) <| .o (op_field fld79_3 z7) <| .o (op_field fld44_1 z0) <| .o (op_loadT (R := rS) (u := ((s_).f).Of) tok9 z0 rfl) <| .o (op_callF call20 (typing_Field_ok ht16) (.cons (.of z3) <| .cons (.of z0) <| .nil)) <| .o (op_assign z0) <| .n) fun n1 a w hst => ?_
 replace hst := hst.to [11,12] [_,_] [] rfl rfl
 obtain ⟨t23,ht23,h⟩ := bind_some h
 refine sr mixed [v1 9 (fun v0 => box (rSapi_Field.cs zz0) v0),v1 9 (fun v0 => box (rSapi_Field.cs t23.1) v0)] hst (fun _ => .o (op_field fld79_0 z1) <| .o (op_loadT (R := rSapi_Schema) (u := (s_).x) tok34 z0 rfl) <| .o (op_field fld79_1 z3) <| .o (op_loadT (R := rI) (u := (s_).kind) tok3 z0 rfl) <| .q 4 rfl <| .o (op_callF call44 (typing_at_ok ht23) (.cons (.of z3) <| .cons (.of z1) <| .cons (.of z0) <| .nil)) <| .q 0 rfl <| .o (op_extract z0 rfl) <| .o (op_extract z1 rfl) <| .m [] [0] rfl rfl rfl (op_alloc (R := rSapi_Field) (a := zz0) tok44 zok44) <| .e [] [0] [1] rfl rfl rfl rfl (op_storeB (R := rSapi_Field) (a := t23.1) tok44 z0 z2 (leb rfl)) <| .o (op_assign z1) <| .n) fun n2 a w hst => ?_
 replace hst : St _ _ _ [_,_,_] [] _ _ := (((hst.pick [9,11,12]).shareB 0 rfl).add 0 rfl (fun _ _ _ h => h.2)).pick [0,3,4]
 obtain ⟨t47,ht47,h⟩ := bind_some h
 refine sr mixed [] hst (fun _ => .o (op_field fld79_3 z2) <| .o (op_field fld44_1 z0) <| .o (op_loadT (R := rS) (u := ((s_).f).Of) tok9 z0 rfl) <| .o (op_neqS z0 .k) <| .q 0 rfl <| .g rfl rfl (.b 0 rfl) (fun _ => op_move z6) <| .g rfl rfl (.b 1 rfl) (fun hc => op_lss (.cond z0 hc) .k) <| .g rfl rfl (.b 2 rfl) (fun hc => op_move (.cond z0 hc)) <| .g rfl rfl (.c 0 rfl) (fun _ => op_move z9) <| .g rfl rfl (.c 1 rfl) (fun _ => op_field fld79_2 z11) <| .g rfl rfl (.c 2 rfl) (fun hc => op_loadT (R := rI) (u := (s_).field) tok3 (.cond z0 hc) rfl) <| .g rfl rfl (.c 3 rfl) (fun hc => op_geq (.cond z2 hc) (.cond z0 hc)) <| .g rfl rfl (.b 7 rfl) (fun hc => op_or (.cond z4 hc) (fun hp => (.cond z0 (band_mk hc (beqF hp))))) <| .g rfl rfl (.b 8 rfl) (fun hc => op_move (.cond z0 hc)) <| .g rfl rfl (.c 0 rfl) (fun _ => op_field fld44_3 z14) <| .g rfl rfl (.c 1 rfl) (fun hc => op_loadT (R := rI) (u := (t23.1).Kind) tok3 (.cond z0 hc) rfl) <| .g rfl rfl (.c 2 rfl) (fun hc => op_neq (.cond z0 hc) .k) <| .g rfl rfl (.b 12 rfl) (fun hc => op_or (.cond z3 hc) (fun hp => (.cond z0 (band_mk hc (beqF hp))))) <| .o (op_and z13 (fun hp => (.cond z0 (beqT hp)))) <| .p (T := rStyping_fault.ty (Styping_fault.mk ((((s_).f).Of != ([] : Str)) && (((decide (t16 < (0:Int))) || (decide (t16 ≥ (s_).field))) || ((t23.1).Kind != (4:Int)))) (12:Int))) rfl (op_build ud72 pl72 zv72 zc72 (.cons (R := rBool) (u := ((((s_).f).Of != ([] : Str)) && (((decide (t16 < (0:Int))) || (decide (t16 ≥ (s_).field))) || ((t23.1).Kind != (4:Int))))) rfl z0 (leb rfl) <| .cons (R := rI) (u := (12:Int)) rfl .k (leb rfl) <| .nil _)) <| .o (op_buildSl (R := rStyping_fault) (us := [(Styping_fault.mk ((((s_).f).Of != ([] : Str)) && (((decide (t16 < (0:Int))) || (decide (t16 ≥ (s_).field))) || ((t23.1).Kind != (4:Int)))) (12:Int))]) ud135 tok72 (.cons z0 <| .nil _) rfl (leb rfl)) <| .o (op_callF call35 (typing_first_ok ht47) (.cons (.of z0) <| .nil)) <| .o (op_assign z0) <| .n) fun n3 a w hst => ?_
 replace hst := hst.to [22] [_] [] rfl rfl
 refine wp_ret ?_
 obtain rfl := sj h
 exact ret_st undef [] hpl hst rfl (.tmp z0 .nil) rfl rfl rfl

/- diorama/typing.checks$4$1 -/
noncomputable def ftyping_checksq4q1 (l_ : Sapi_Life) (c0_ : Styping_spot) : Option (Bool) := (some ((l_).Name == ((c0_).f).Of))
set_option maxRecDepth 100000 in
set_option maxHeartbeats 4000000 in
theorem typing_checksq4q1_ok {l_ : Sapi_Life} {c0_ : Styping_spot} {r : Bool} (h : ftyping_checksq4q1 l_ c0_ = some r) : FnOk Tryz.prog 200 [rSapi_Life.ty l_,tptr (rStyping_spot.cs c0_)] [] (fun _ => []) (fun _ => tb r) := by
 unfold ftyping_checksq4q1 at h
 refine FnOk.enter Tryz.func200 rfl Tryz.ntmps200 (leb rfl) (fun M0 M w0 a hpl hst => ?_)
 replace hst : St M w0 10 [(0,rSapi_Life.ty l_),(1,tptr (rStyping_spot.cs c0_))] [] a w0 := hst
 refine sr mixed [] hst (fun _ => .o (op_boxR (R := rSapi_Life) (u := l_) z0) <| .o (op_assign .k) <| .n) fun n0 a w hst => ?_
 replace hst := hst.to [0,3] [_,_] [] rfl rfl
 refine sr mixed [] hst (fun _ => .o (op_field fld67_0 z0) <| .o (op_loadT (R := rS) (u := (l_).Name) tok9 z0 rfl) <| .o (op_field fld79_3 z3) <| .o (op_field fld44_1 z0) <| .o (op_loadT (R := rS) (u := ((c0_).f).Of) tok9 z0 rfl) <| .o (op_eqlS z3 z0) <| .o (op_assign z0) <| .n) fun n1 a w hst => ?_
 replace hst := hst.to [6] [_] [] rfl rfl
 refine wp_ret ?_
 obtain rfl := sj h
 exact ret_st undef [] hpl hst rfl (.tmp z0 .nil) rfl rfl rfl

/- diorama/typing.checks$4 -/
noncomputable def ftyping_checksq4 (s_ : Styping_spot) : Option (Int) := (fslices_ContainsFunc_Life ((s_).x).Lives (fun x0 => ftyping_checksq4q1 x0 s_)).bind fun t8 => (ftyping_first [(Styping_fault.mk (!t8) (12:Int))]).bind fun t13 => (some t13)
set_option maxRecDepth 100000 in
set_option maxHeartbeats 4000000 in
theorem typing_checksq4_ok {s_ : Styping_spot} {r : Int} (h : ftyping_checksq4 s_ = some r) : FnOk Tryz.prog 199 [rStyping_spot.ty s_] [] (fun _ => []) (fun _ => ti r) := by
 unfold ftyping_checksq4 at h
 refine FnOk.enter Tryz.func199 rfl Tryz.ntmps199 (leb rfl) (fun M0 M w0 a hpl hst => ?_)
 replace hst : St M w0 14 [(0,rStyping_spot.ty s_)] [] a w0 := hst
 refine sr mixed [] hst (fun _ => .o (op_boxR (R := rStyping_spot) (u := s_) z0) <| .o (op_assign .k) <| .n) fun n0 a w hst => ?_
 replace hst := hst.to [0] [_] [] rfl rfl
 obtain ⟨t8,ht8,h⟩ := bind_some h
 refine sr mixed [] hst (fun _ => .o (op_field fld79_0 z0) <| .o (op_field fld34_2 z0) <| .o (op_loadT (R := (rSl rSapi_Life)) (u := ((s_).x).Lives) tok31 z0 rfl) <| .o (op_clo (.cons z3 <| .nil)) <| .o (op_callF call33 (slices_ContainsFunc_Life_ok ht8) (.cons (.of z1) <| .cons (.of (Fct.weak z0 (tfn_of call200 (fun _ _ hq => typing_checksq4q1_ok hq)))) <| .nil)) <| .o (op_assign z0) <| .n) fun n1 a w hst => ?_
 replace hst := hst.to [5] [_] [] rfl rfl
 obtain ⟨t13,ht13,h⟩ := bind_some h
 refine sr mixed [] hst (fun _ => .q 0 rfl <| .o (op_not z0) <| .p (T := rStyping_fault.ty (Styping_fault.mk (!t8) (12:Int))) rfl (op_build ud72 pl72 zv72 zc72 (.cons (R := rBool) (u := (!t8)) rfl z0 (leb rfl) <| .cons (R := rI) (u := (12:Int)) rfl .k (leb rfl) <| .nil _)) <| .o (op_buildSl (R := rStyping_fault) (us := [(Styping_fault.mk (!t8) (12:Int))]) ud135 tok72 (.cons z0 <| .nil _) rfl (leb rfl)) <| .o (op_callF call35 (typing_first_ok ht13) (.cons (.of z0) <| .nil)) <| .o (op_assign z0) <| .n) fun n2 a w hst => ?_
 replace hst := hst.to [5] [_] [] rfl rfl
 refine wp_ret ?_
 obtain rfl := sj h
 exact ret_st undef [] hpl hst rfl (.tmp z0 .nil) rfl rfl rfl

/- diorama/typing.shares -/
noncomputable def ftyping_shares (x_ : Sapi_Schema) (kind_ : Int) (f_ : Sapi_Field) : Option (Int × (List Int)) := (ftyping_Kind x_ (f_).Of).bind fun t15 => (if (((f_).Kind != (6:Int)) || (decide (t15 ≤ kind_))) = true then (some ((-1:Int),([] : List Int))) else (idx (x_).Kinds t15).bind fun t27 => (tailrec (fun (s10 : Int × List Int) => ((if (decide (s10.1 < ((t27).Fields.length : Int))) = true then (idx (t27).Fields s10.1).bind fun t34 => (opt ((((t34).Kind == (7:Int)) && ((t34).Of == (f_).Name)) == true) (ftyping_Up x_ t15 s10.1) default).bind fun t50 => ((if ((((t34).Kind == (7:Int)) && ((t34).Of == (f_).Name)) && (t50 == kind_)) = true then (rm (s10.2.length + [s10.1].length)).bind fun _ => (some (s10.2 ++ [s10.1])) else (some s10.2))).bind fun (p45 : List Int) => (some (.inl ((IntKind.i64.wrap (s10.1 + (1:Int))),p45))) else (some (.inr s10.2))) : Option ((Int × List Int) ⊕ ((List Int))))) ((0:Int),([] : List Int))).bind fun (p35 : (List Int)) => (some (t15,p35)))
set_option maxRecDepth 100000 in
set_option maxHeartbeats 4000000 in
theorem typing_shares_ok {x_ : Sapi_Schema} {kind_ : Int} {f_ : Sapi_Field} {r : Int × (List Int)} (h : ftyping_shares x_ kind_ f_ = some r) : FnOk Tryz.prog 45 [rSapi_Schema.ty x_,ti kind_,rSapi_Field.ty f_] [] (fun _ => []) (fun _ => ttup [ti r.1,tsl rI r.2]) := by
 unfold ftyping_shares at h
 refine FnOk.enter Tryz.func45 rfl Tryz.ntmps45 (leb rfl) (fun M0 M w0 a hpl hst => ?_)
 replace hst : St M w0 61 [(0,rSapi_Schema.ty x_),(1,ti kind_),(2,rSapi_Field.ty f_)] [] a w0 := hst
 refine sr mixed [] hst (fun _ => .o (op_boxR (R := rSapi_Schema) (u := x_) z0) <| .o (op_boxR (R := rSapi_Field) (u := f_) z3) <| .o (op_assign .k) <| .o (op_assign (.nilsl (R := rI))) <| .n) fun n0 a w hst => ?_
 replace hst := hst.to [0,1,5] [_,_,_] [] rfl rfl
 obtain ⟨t15,ht15,h⟩ := bind_some h
 refine sr mixed [] hst (fun _ => .o (op_load tok34 z0) <| .o (op_field fld44_1 z2) <| .o (op_loadT (R := rS) (u := (f_).Of) tok9 z0 rfl) <| .o (op_callF call18 (typing_Kind_ok ht15) (.cons (.of z2) <| .cons (.of z0) <| .nil)) <| .o (op_assign z0) <| .n) fun n1 a w hst => ?_
 replace hst := hst.to [4,5,6,7] [_,_,_,_] [] rfl rfl
 refine wp_seq_k (fun K3 hK3 => ?_)
 refine sr mixed [] hst (fun _ => .o (op_field fld44_3 z2) <| .o (op_loadT (R := rI) (u := (f_).Kind) tok3 z0 rfl) <| .o (op_neq z0 .k) <| .q 0 rfl <| .g rfl rfl (.b 0 rfl) (fun _ => op_move z4) <| .g rfl rfl (.b 1 rfl) (fun _ => op_move z8) <| .g rfl rfl (.b 2 rfl) (fun hc => op_leq (.cond z1 hc) (.cond z0 hc)) <| .o (op_or z3 (fun hp => (.cond z0 (beqF hp)))) <| .n) fun n2 a w hst => ?_
 replace hst := hst.to [7,8,9,10,11] [_,_,_,_,_] [] rfl rfl
 refine wt hst (fun b50 => ?_) (fun b50 => ?_)
 ·replace h := ite_t b50 h
  refine sr mixed [] hst (fun _ => .o (op_assign .k) <| .o (op_assign (.nilsl (R := rI))) <| .n) fun n3 a w hst => ?_
  replace hst := hst.to [0,1] [_,_] [] rfl rfl
  refine wp_ret ?_
  obtain rfl := sj h
  exact ret_st undef [] hpl hst rfl (.tmp z0 (.tmp z1 .nil)) rfl rfl rfl
 ·replace h := ite_f b50 h
  refine wp_skip ?_
  refine hK3 _ _ ?_
  try clear hK3 K3
  refine sr mixed [] hst (fun _ => .o (op_assign .k) <| .n) fun n4 a w hst => ?_
  replace hst : St _ _ _ [_,_,_,_,_] [_] _ _ := (hst.pick [0,2,3,4,5]).nil (rI) 3
  refine wp_seq_k (fun K8 hK8 => ?_)
  obtain ⟨t27,ht27,h⟩ := bind_some h
  refine sr mixed [] hst (fun _ => .o (op_field fld34_1 z2) <| .o (op_loadT (R := (rSl rSapi_Kind)) (u := (x_).Kinds) tok30 z0 rfl) <| .q 3 rfl <| .o (op_index ud30 tok47 z1 z0 ht27) <| .o (op_field fld47_3 z0) <| .o (op_loadT (R := (rSl rSapi_Field)) (u := (t27).Fields) tok45 z0 rfl) <| .o (op_len ud45 z0) <| .o (op_move .k) <| .n) fun n5 a w hst => ?_
  replace hst := hst.to [5,6,7,8,9,10,11,12] [_,_,_,_,_,_,_,_] [_] rfl rfl
  obtain ⟨e11,he11,h⟩ := bind_some h
  have hJp35 : ∀ (p35 : List Int) (v36 : Value) a w,p35 = e11 → St M w0 61 [(9,tv v36),(8,ti t15)] [own rI 3 p35 v36] a w → K8 a w := by
   intro p35 v36 a w he hst
   subst he
   refine hK8 _ _ ?_
   try clear hK8 K8
   refine sr mixed [] hst (fun _ => .q 1 rfl <| .q 1 rfl <| .o (op_assign z1) <| .o (op_assign z1) <| .n) fun n11 a w hst => ?_
   replace hst := hst.to [1,2,3,4] [_,_,_,_] [_] rfl rfl
   refine wp_ret ?_
   replace hst : St _ _ _ [_,_] [] _ _ := (hst.shareO 2 rfl).pick [0,2]
   obtain rfl := sj h
   exact ret_st undef [] hpl hst rfl (.tmp z1 (.tmp z0 .nil)) rfl rfl rfl
  refine wp_block ?_
  refine wp_loopK _ (fun (s10 : Int × List Int) a w => ∃ v23 : Value,St M w0 61 [(29,tsl rSapi_Field (t27).Fields),(30,ti ((t27).Fields.length : Int)),(31,ti s10.1),(9,tv v23),(8,ti t15),(3,tptr (rSapi_Schema.cs x_)),(5,tptr (rSapi_Field.cs f_)),(1,ti kind_)] [own rI 3 s10.2 v23] a w) _ _ he11 ⟨(.slice none 0 0),hst.pick [0,1,2,3,4,5,6,7]⟩ ?_
  clear h
  intro s10 o a w K38 hI h ho hK38
  obtain ⟨v23,hst⟩ := hI
  refine sr mixed [] hst (fun _ => .o (op_lss z2 z1) <| .n) fun n6 a w hst => ?_
  replace hst := hst.to [0,1,2,3,4,5,6,7,8] [_,_,_,_,_,_,_,_,_] [_] rfl rfl
  refine wp_seq_k (fun K40 hK40 => ?_)
  refine wt hst (fun b49 => ?_) (fun b49 => ?_)
  ·replace h := ite_t b49 h
   refine wp_skip ?_
   refine hK40 _ _ ?_
   try clear hK40 K40
   refine wp_seq_k (fun K41 hK41 => ?_)
   refine wp_block ?_
   obtain ⟨t34,ht34,h⟩ := bind_some h
   refine sr mixed [v1 3 (fun v0 => box (rSapi_Field.cs zz0) v0),v1 3 (fun v0 => box (rSapi_Field.cs t34) v0)] hst (fun _ => .q 3 rfl <| .o (op_index ud45 tok44 z2 z4 ht34) <| .o (op_load tok44 z0) <| .m [] [1] rfl rfl rfl (op_alloc (R := rSapi_Field) (a := zz0) tok44 zok44) <| .o (op_assign z3) <| .e [] [1] [2] rfl rfl rfl rfl (op_storeB (R := rSapi_Field) (a := t34) tok44 z1 z2 (leb rfl)) <| .n) fun n7 a w hst => ?_
   replace hst : St _ _ _ [_,_,_,_,_,_,_,_,_,_] [_] _ _ := ((((hst.pick [3,4,6,7,8,9,10,11,12,13]).selA [1,0] rfl).shareB 0 rfl).add 0 rfl (fun _ _ _ h => h.2)).pick [0,3,4,5,6,7,8,9,10,11]
   obtain ⟨t50,ht50,h⟩ := bind_some h
   refine sr mixed [] hst (fun _ => .o (op_field fld44_3 z0) <| .o (op_loadT (R := rI) (u := (t34).Kind) tok3 z0 rfl) <| .o (op_eql z0 .k) <| .q 0 rfl <| .g rfl rfl (.b 0 rfl) (fun _ => op_field fld44_1 z4) <| .g rfl rfl (.b 1 rfl) (fun hc => op_loadT (R := rS) (u := (t34).Of) tok9 (.cond z0 hc) rfl) <| .g rfl rfl (.b 2 rfl) (fun _ => op_field fld44_0 z14) <| .g rfl rfl (.b 3 rfl) (fun hc => op_loadT (R := rS) (u := (f_).Name) tok9 (.cond z0 hc) rfl) <| .g rfl rfl (.b 4 rfl) (fun hc => op_eqlS (.cond z2 hc) (.cond z0 hc)) <| .o (op_and z5 (fun hp => (.cond z0 (beqT hp)))) <| .q 0 rfl <| .g rfl rfl (.b 0 rfl) (fun _ => op_load tok34 z18) <| .g rfl rfl (.b 1 rfl) (fun _ => op_move z18) <| .g rfl rfl (.b 2 rfl) (fun _ => op_move z14) <| .g rfl rfl (.b 3 rfl) (fun hc => op_callF call15 (typing_Up_ok (opt_t ht50 hc)) (.cons (.of (.cond z2 hc)) <| .cons (.of (.cond z1 hc)) <| .cons (.of (.cond z0 hc)) <| .nil)) <| .g rfl rfl (.b 4 rfl) (fun _ => op_move z24) <| .g rfl rfl (.b 5 rfl) (fun hc => op_eql (.cond z1 hc) (.cond z0 hc)) <| .o (op_and z6 (fun hp => (.cond z0 (beqT hp)))) <| .n) fun n8 a w hst => ?_
   replace hst := hst.to [17,19,20,21,22,23,24,25,26,27] [_,_,_,_,_,_,_,_,_,_] [_] rfl rfl
   obtain ⟨p45,hp45,h⟩ := bind_some h
   have hJp45 : ∀ (v47 : Value) a w,St M w0 61 [(9,tv v47),(29,tsl rSapi_Field (t27).Fields),(30,ti ((t27).Fields.length : Int)),(31,ti s10.1),(8,ti t15),(3,tptr (rSapi_Schema.cs x_)),(5,tptr (rSapi_Field.cs f_)),(1,ti kind_)] [own rI 3 p45 v47] a w → K41 a w := by
    intro v47 a w hst
    refine hK41 _ _ ?_
    try clear hK41 K41
    refine wr mixed [] hst (fun _ => .o (op_add z3 .k) <| .q 0 rfl <| .n) fun n10 a w hst => ?_
    replace hst := hst.to [1,2,3,4,5,6,7,8] [_,_,_,_,_,_,_,_] [_] rfl rfl
    exact hK38 _ _ _ (sj h).symm ⟨v47,hst.pick [2,3,0,1,4,5,6,7]⟩
   replace h := hp45
   clear hp45
   refine wt hst (fun b48 => ?_) (fun b48 => ?_)
   ·replace h := ite_t b48 h
    obtain ⟨u57,hu57,h⟩ := bind_some h
    refine wr mixed [v1 3 (fun v0 => own rI 3 (s10.2 ++ [s10.1]) v0)] hst (fun _ => .q 5 rfl <| .q 2 rfl <| .o (op_buildSl (R := rI) (us := [s10.1]) ud22 tok3 (.cons z0 <| .nil _) rfl (leb rfl)) <| .e [] [0] [1] rfl rfl rfl rfl (op_append (R := rI) ud22 tok3 (leb rfl) z2 z0 hu57) <| .ud (f := fun v => tv v) 3 rfl [] rfl rfl (op_assign z0) <| .n) fun n9 a w hst => ?_
    replace hst := hst.to [3,4,7,8,9,10,11,12,13] [_,_,_,_,_,_,_,_,_] [_] rfl rfl
    obtain rfl := sj h
    exact hJp45 (n9 3) _ _ (hst.pick [1,2,3,4,5,6,7,8])
   ·replace h := ite_f b48 h
    refine wp_skip ?_
    obtain rfl := sj h
    exact hJp45 v23 _ _ (hst.pick [5,2,3,4,6,7,8,9])
  ·replace h := ite_f b49 h
   refine wp_exit ?_
   exact hJp35 _ v23 _ _ (ho _ (sj h).symm) (hst.pick [4,5])

/- diorama/typing.checks$5 -/
noncomputable def ftyping_checksq5 (s_ : Styping_spot) : Option (Int) := (ftyping_shares (s_).x (s_).kind (s_).f).bind fun t12 => (ftyping_first [(Styping_fault.mk (decide (t12.1 < (0:Int))) (12:Int)),(Styping_fault.mk ((t12.2.length : Int) != (1:Int)) (11:Int))]).bind fun t23 => (some t23)
set_option maxRecDepth 100000 in
set_option maxHeartbeats 4000000 in
theorem typing_checksq5_ok {s_ : Styping_spot} {r : Int} (h : ftyping_checksq5 s_ = some r) : FnOk Tryz.prog 201 [rStyping_spot.ty s_] [] (fun _ => []) (fun _ => ti r) := by
 unfold ftyping_checksq5 at h
 refine FnOk.enter Tryz.func201 rfl Tryz.ntmps201 (leb rfl) (fun M0 M w0 a hpl hst => ?_)
 replace hst : St M w0 24 [(0,rStyping_spot.ty s_)] [] a w0 := hst
 refine sr mixed [] hst (fun _ => .o (op_boxR (R := rStyping_spot) (u := s_) z0) <| .o (op_assign .k) <| .n) fun n0 a w hst => ?_
 replace hst := hst.to [0] [_] [] rfl rfl
 obtain ⟨t12,ht12,h⟩ := bind_some h
 refine sr mixed [] hst (fun _ => .o (op_field fld79_0 z0) <| .o (op_loadT (R := rSapi_Schema) (u := (s_).x) tok34 z0 rfl) <| .o (op_field fld79_1 z2) <| .o (op_loadT (R := rI) (u := (s_).kind) tok3 z0 rfl) <| .o (op_field fld79_3 z4) <| .o (op_loadT (R := rSapi_Field) (u := (s_).f) tok44 z0 rfl) <| .o (op_callF call45 (typing_shares_ok ht12) (.cons (.of z4) <| .cons (.of z2) <| .cons (.of z0) <| .nil)) <| .q 0 rfl <| .o (op_extract z0 rfl) <| .o (op_extract z1 rfl) <| .o (op_assign z1) <| .o (op_assign z1) <| .n) fun n1 a w hst => ?_
 replace hst := hst.to [10,11] [_,_] [] rfl rfl
 obtain ⟨t23,ht23,h⟩ := bind_some h
 refine sr mixed [] hst (fun _ => .q 0 rfl <| .o (op_lss z0 .k) <| .p (T := rStyping_fault.ty (Styping_fault.mk (decide (t12.1 < (0:Int))) (12:Int))) rfl (op_build ud72 pl72 zv72 zc72 (.cons (R := rBool) (u := (decide (t12.1 < (0:Int)))) rfl z0 (leb rfl) <| .cons (R := rI) (u := (12:Int)) rfl .k (leb rfl) <| .nil _)) <| .q 4 rfl <| .o (op_len ud22 z0) <| .o (op_neq z0 .k) <| .p (T := rStyping_fault.ty (Styping_fault.mk ((t12.2.length : Int) != (1:Int)) (11:Int))) rfl (op_build ud72 pl72 zv72 zc72 (.cons (R := rBool) (u := ((t12.2.length : Int) != (1:Int))) rfl z0 (leb rfl) <| .cons (R := rI) (u := (11:Int)) rfl .k (leb rfl) <| .nil _)) <| .o (op_buildSl (R := rStyping_fault) (us := [(Styping_fault.mk (decide (t12.1 < (0:Int))) (12:Int)),(Styping_fault.mk ((t12.2.length : Int) != (1:Int)) (11:Int))]) ud135 tok72 (.cons z4 <| .cons z0 <| .nil _) rfl (leb rfl)) <| .o (op_callF call35 (typing_first_ok ht23) (.cons (.of z0) <| .nil)) <| .o (op_assign z0) <| .n) fun n2 a w hst => ?_
 replace hst := hst.to [9] [_] [] rfl rfl
 refine wp_ret ?_
 obtain rfl := sj h
 exact ret_st undef [] hpl hst rfl (.tmp z0 .nil) rfl rfl rfl

/- (diorama/typing.spot).top -/
noncomputable def ftyping_spot_top (s_ : Styping_spot) : Option (Sapi_Field × Bool) := (ftyping_Up (s_).x (s_).kind (s_).field).bind fun t11 => (if (decide (t11 < (0:Int))) = true then (some (zz0,false)) else (idx ((s_).x).Kinds t11).bind fun t22 => (ftyping_Field t22 ((s_).f).Of).bind fun t27 => (ftyping_at (s_).x t11 t27).bind fun t28 => (some (t28.1,t28.2)))
set_option maxRecDepth 100000 in
set_option maxHeartbeats 4000000 in
theorem typing_spot_top_ok {s_ : Styping_spot} {r : Sapi_Field × Bool} (h : ftyping_spot_top s_ = some r) : FnOk Tryz.prog 203 [rStyping_spot.ty s_] [] (fun _ => []) (fun _ => ttup [rSapi_Field.ty r.1,tb r.2]) := by
 unfold ftyping_spot_top at h
 refine FnOk.enter Tryz.func203 rfl Tryz.ntmps203 (leb rfl) (fun M0 M w0 a hpl hst => ?_)
 replace hst : St M w0 31 [(0,rStyping_spot.ty s_)] [] a w0 := hst
 refine sr mixed [v1 1 (fun v0 => box (rSapi_Field.cs zz0) v0)] hst (fun _ => .o (op_boxR (R := rStyping_spot) (u := s_) z0) <| .m [] [0] rfl rfl rfl (op_alloc (R := rSapi_Field) (a := zz0) tok44 zok44) <| .o (op_assign .k) <| .n) fun n0 a w hst => ?_
 replace hst := hst.to [0,1] [_,_] [_] rfl rfl
 obtain ⟨t11,ht11,h⟩ := bind_some h
 refine sr mixed [] hst (fun _ => .o (op_field fld79_0 z0) <| .o (op_loadT (R := rSapi_Schema) (u := (s_).x) tok34 z0 rfl) <| .o (op_field fld79_1 z2) <| .o (op_loadT (R := rI) (u := (s_).kind) tok3 z0 rfl) <| .o (op_field fld79_2 z4) <| .o (op_loadT (R := rI) (u := (s_).field) tok3 z0 rfl) <| .o (op_callF call15 (typing_Up_ok ht11) (.cons (.of z4) <| .cons (.of z2) <| .cons (.of z0) <| .nil)) <| .o (op_assign z0) <| .n) fun n1 a w hst => ?_
 replace hst := hst.to [7,8,9] [_,_,_] [_] rfl rfl
 refine wp_seq_k (fun K4 hK4 => ?_)
 refine sr mixed [] hst (fun _ => .q 0 rfl <| .o (op_lss z0 .k) <| .n) fun n2 a w hst => ?_
 replace hst := hst.to [1,2,3,4] [_,_,_,_] [_] rfl rfl
 refine wt hst (fun b8 => ?_) (fun b8 => ?_)
 ·replace h := ite_t b8 h
  refine sr mixed [v0 (box (rSapi_Field.cs zz0) (n0 1))] hst (fun _ => .p (T := rSapi_Field.ty zz0) rfl (op_build ud44 pl44 zv44 zc44 (.nil _)) <| .e [] [0] [1] rfl rfl rfl rfl (op_storeB (R := rSapi_Field) (a := zz0) tok44 z4 z0 (leb rfl)) <| .o (op_assign .k) <| .n) fun n3 a w hst => ?_
  replace hst := hst.to [1,5] [_,_] [_] rfl rfl
  refine wp_ret ?_
  obtain rfl := sj h
  exact ret_st undef [] hpl hst rfl (.cell (R := rSapi_Field) (u := zz0) tok44 z1 0 rfl rfl (.tmp z0 .nil)) rfl rfl rfl
 ·replace h := ite_f b8 h
  refine wp_skip ?_
  refine hK4 _ _ ?_
  try clear hK4 K4
  obtain ⟨t22,ht22,h⟩ := bind_some h
  obtain ⟨t27,ht27,h⟩ := bind_some h
  obtain ⟨t28,ht28,h⟩ := bind_some h
  refine sr mixed [v0 (box (rSapi_Field.cs t28.1) (n0 1))] hst (fun _ => .o (op_field fld79_0 z2) <| .o (op_loadT (R := rSapi_Schema) (u := (s_).x) tok34 z0 rfl) <| .q 3 rfl <| .o (op_field fld79_0 z5) <| .o (op_field fld34_1 z0) <| .o (op_loadT (R := (rSl rSapi_Kind)) (u := ((s_).x).Kinds) tok30 z0 rfl) <| .q 7 rfl <| .o (op_index ud30 tok47 z1 z0 ht22) <| .o (op_load tok47 z0) <| .o (op_field fld79_3 z11) <| .o (op_field fld44_1 z0) <| .o (op_loadT (R := rS) (u := ((s_).f).Of) tok9 z0 rfl) <| .o (op_callF call20 (typing_Field_ok ht27) (.cons (.of z3) <| .cons (.of z0) <| .nil)) <| .o (op_callF call44 (typing_at_ok ht28) (.cons (.of z11) <| .cons (.of z10) <| .cons (.of z0) <| .nil)) <| .o (op_extract z0 rfl) <| .o (op_extract z1 rfl) <| .e [] [0] [1] rfl rfl rfl rfl (op_storeB (R := rSapi_Field) (a := t28.1) tok44 z19 z1 (leb rfl)) <| .o (op_assign z0) <| .n) fun n4 a w hst => ?_
  replace hst := hst.to [16,20] [_,_] [_] rfl rfl
  refine wp_ret ?_
  obtain rfl := sj h
  exact ret_st undef [] hpl hst rfl (.cell (R := rSapi_Field) (u := t28.1) tok44 z1 0 rfl rfl (.tmp z0 .nil)) rfl rfl rfl

/- diorama/typing.checks$6 -/
noncomputable def ftyping_checksq6 (s_ : Styping_spot) : Option (Int) := (ftyping_spot_top s_).bind fun t7 => (ftyping_spot_lost s_).bind fun t11 => (opt (((!t7.2) || ((t7.1).Kind != (6:Int))) == false) (ftyping_Kind (s_).x (t7.1).Of) default).bind fun t25 => (ftyping_first [(Styping_fault.mk t11 (12:Int)),(Styping_fault.mk (((!t7.2) || ((t7.1).Kind != (6:Int))) || (t25 != (s_).kind)) (13:Int))]).bind fun t32 => (some t32)
set_option maxRecDepth 100000 in
set_option maxHeartbeats 4000000 in
theorem typing_checksq6_ok {s_ : Styping_spot} {r : Int} (h : ftyping_checksq6 s_ = some r) : FnOk Tryz.prog 202 [rStyping_spot.ty s_] [] (fun _ => []) (fun _ => ti r) := by
 unfold ftyping_checksq6 at h
 refine FnOk.enter Tryz.func202 rfl Tryz.ntmps202 (leb rfl) (fun M0 M w0 a hpl hst => ?_)
 replace hst : St M w0 33 [(0,rStyping_spot.ty s_)] [] a w0 := hst
 refine sr mixed [] hst (fun _ => .o (op_boxR (R := rStyping_spot) (u := s_) z0) <| .o (op_assign .k) <| .n) fun n0 a w hst => ?_
 replace hst := hst.to [0] [_] [] rfl rfl
 obtain ⟨t7,ht7,h⟩ := bind_some h
 refine sr mixed [v1 5 (fun v0 => box (rSapi_Field.cs zz0) v0),v1 5 (fun v0 => box (rSapi_Field.cs t7.1) v0)] hst (fun _ => .o (op_load tok79 z0) <| .o (op_callF call203 (typing_spot_top_ok ht7) (.cons (.of z0) <| .nil)) <| .q 0 rfl <| .o (op_extract z0 rfl) <| .o (op_extract z1 rfl) <| .m [] [0] rfl rfl rfl (op_alloc (R := rSapi_Field) (a := zz0) tok44 zok44) <| .e [] [0] [1] rfl rfl rfl rfl (op_storeB (R := rSapi_Field) (a := t7.1) tok44 z0 z2 (leb rfl)) <| .o (op_assign z1) <| .n) fun n1 a w hst => ?_
 replace hst : St _ _ _ [_,_,_] [] _ _ := (((hst.pick [5,6,7]).shareB 0 rfl).add 0 rfl (fun _ _ _ h => h.2)).pick [0,3,4]
 obtain ⟨t11,ht11,h⟩ := bind_some h
 obtain ⟨t25,ht25,h⟩ := bind_some h
 obtain ⟨t32,ht32,h⟩ := bind_some h
 refine sr mixed [] hst (fun _ => .o (op_load tok79 z2) <| .o (op_callF call193 (typing_spot_lost_ok ht11) (.cons (.of z0) <| .nil)) <| .p (T := rStyping_fault.ty (Styping_fault.mk t11 (12:Int))) rfl (op_build ud72 pl72 zv72 zc72 (.cons (R := rBool) (u := t11) rfl z0 (leb rfl) <| .cons (R := rI) (u := (12:Int)) rfl .k (leb rfl) <| .nil _)) <| .q 4 rfl <| .o (op_not z0) <| .q 0 rfl <| .g rfl rfl (.b 0 rfl) (fun _ => op_field fld44_3 z6) <| .g rfl rfl (.b 1 rfl) (fun hc => op_loadT (R := rI) (u := (t7.1).Kind) tok3 (.cond z0 hc) rfl) <| .g rfl rfl (.b 2 rfl) (fun hc => op_neq (.cond z0 hc) .k) <| .o (op_or z3 (fun hp => (.cond z0 (beqF hp)))) <| .q 0 rfl <| .g rfl rfl (.b 0 rfl) (fun _ => op_field fld79_0 z13) <| .g rfl rfl (.b 1 rfl) (fun hc => op_loadT (R := rSapi_Schema) (u := (s_).x) tok34 (.cond z0 hc) rfl) <| .g rfl rfl (.b 2 rfl) (fun _ => op_field fld44_1 z13) <| .g rfl rfl (.b 3 rfl) (fun hc => op_loadT (R := rS) (u := (t7.1).Of) tok9 (.cond z0 hc) rfl) <| .g rfl rfl (.b 4 rfl) (fun hc => op_callF call18 (typing_Kind_ok (opt_t ht25 hc)) (.cons (.of (.cond z2 hc)) <| .cons (.of (.cond z0 hc)) <| .nil)) <| .g rfl rfl (.b 5 rfl) (fun _ => op_field fld79_1 z18) <| .g rfl rfl (.b 6 rfl) (fun hc => op_loadT (R := rI) (u := (s_).kind) tok3 (.cond z0 hc) rfl) <| .g rfl rfl (.b 7 rfl) (fun hc => op_neq (.cond z2 hc) (.cond z0 hc)) <| .o (op_or z8 (fun hp => (.cond z0 (beqF hp)))) <| .p (T := rStyping_fault.ty (Styping_fault.mk (((!t7.2) || ((t7.1).Kind != (6:Int))) || (t25 != (s_).kind)) (13:Int))) rfl (op_build ud72 pl72 zv72 zc72 (.cons (R := rBool) (u := (((!t7.2) || ((t7.1).Kind != (6:Int))) || (t25 != (s_).kind))) rfl z0 (leb rfl) <| .cons (R := rI) (u := (13:Int)) rfl .k (leb rfl) <| .nil _)) <| .o (op_buildSl (R := rStyping_fault) (us := [(Styping_fault.mk t11 (12:Int)),(Styping_fault.mk (((!t7.2) || ((t7.1).Kind != (6:Int))) || (t25 != (s_).kind)) (13:Int))]) ud135 tok72 (.cons z18 <| .cons z0 <| .nil _) rfl (leb rfl)) <| .o (op_callF call35 (typing_first_ok ht32) (.cons (.of z0) <| .nil)) <| .o (op_assign z0) <| .n) fun n2 a w hst => ?_
 replace hst := hst.to [23] [_] [] rfl rfl
 refine wp_ret ?_
 obtain rfl := sj h
 exact ret_st undef [] hpl hst rfl (.tmp z0 .nil) rfl rfl rfl

/- diorama/typing.checks$7 -/
noncomputable def ftyping_checksq7 (s_ : Styping_spot) : Option (Int) := (ftyping_spot_top s_).bind fun t8 => (ftyping_spot_lost s_).bind fun t35 => (ftyping_first [(Styping_fault.mk t35 (12:Int)),(Styping_fault.mk ((!t8.2) || (!((((((t8.1).Kind == (2:Int)) || ((t8.1).Kind == (3:Int))) || ((t8.1).Kind == (4:Int))) || ((t8.1).Kind == (5:Int))) || ((t8.1).Kind == (8:Int))))) (13:Int))]).bind fun t45 => (some t45)
set_option maxRecDepth 100000 in
set_option maxHeartbeats 4000000 in
theorem typing_checksq7_ok {s_ : Styping_spot} {r : Int} (h : ftyping_checksq7 s_ = some r) : FnOk Tryz.prog 204 [rStyping_spot.ty s_] [] (fun _ => []) (fun _ => ti r) := by
 unfold ftyping_checksq7 at h
 refine FnOk.enter Tryz.func204 rfl Tryz.ntmps204 (leb rfl) (fun M0 M w0 a hpl hst => ?_)
 replace hst : St M w0 46 [(0,rStyping_spot.ty s_)] [] a w0 := hst
 refine sr mixed [] hst (fun _ => .o (op_boxR (R := rStyping_spot) (u := s_) z0) <| .o (op_assign .k) <| .n) fun n0 a w hst => ?_
 replace hst := hst.to [0] [_] [] rfl rfl
 obtain ⟨t8,ht8,h⟩ := bind_some h
 refine sr mixed [v1 5 (fun v0 => box (rSapi_Field.cs zz0) v0),v1 5 (fun v0 => box (rSapi_Field.cs t8.1) v0)] hst (fun _ => .o (op_load tok79 z0) <| .o (op_callF call203 (typing_spot_top_ok ht8) (.cons (.of z0) <| .nil)) <| .q 0 rfl <| .o (op_extract z0 rfl) <| .o (op_extract z1 rfl) <| .m [] [0] rfl rfl rfl (op_alloc (R := rSapi_Field) (a := zz0) tok44 zok44) <| .e [] [0] [1] rfl rfl rfl rfl (op_storeB (R := rSapi_Field) (a := t8.1) tok44 z0 z2 (leb rfl)) <| .o (op_assign z1) <| .n) fun n1 a w hst => ?_
 replace hst : St _ _ _ [_,_,_] [] _ _ := (((hst.pick [5,6,7]).shareB 0 rfl).add 0 rfl (fun _ _ _ h => h.2)).pick [0,3,4]
 refine sr mixed [] hst (fun _ => .o (op_field fld44_3 z0) <| .o (op_loadT (R := rI) (u := (t8.1).Kind) tok3 z0 rfl) <| .o (op_eql z0 .k) <| .q 0 rfl <| .g rfl rfl (.b 0 rfl) (fun _ => op_field fld44_3 z4) <| .g rfl rfl (.b 1 rfl) (fun hc => op_loadT (R := rI) (u := (t8.1).Kind) tok3 (.cond z0 hc) rfl) <| .g rfl rfl (.b 2 rfl) (fun hc => op_eql (.cond z0 hc) .k) <| .o (op_or z3 (fun hp => (.cond z0 (beqF hp)))) <| .q 0 rfl <| .g rfl rfl (.b 0 rfl) (fun _ => op_field fld44_3 z9) <| .g rfl rfl (.b 1 rfl) (fun hc => op_loadT (R := rI) (u := (t8.1).Kind) tok3 (.cond z0 hc) rfl) <| .g rfl rfl (.b 2 rfl) (fun hc => op_eql (.cond z0 hc) .k) <| .o (op_or z3 (fun hp => (.cond z0 (beqF hp)))) <| .q 0 rfl <| .g rfl rfl (.b 0 rfl) (fun _ => op_field fld44_3 z14) <| .g rfl rfl (.b 1 rfl) (fun hc => op_loadT (R := rI) (u := (t8.1).Kind) tok3 (.cond z0 hc) rfl) <| .g rfl rfl (.b 2 rfl) (fun hc => op_eql (.cond z0 hc) .k) <| .o (op_or z3 (fun hp => (.cond z0 (beqF hp)))) <| .q 0 rfl <| .g rfl rfl (.b 0 rfl) (fun _ => op_field fld44_3 z19) <| .g rfl rfl (.b 1 rfl) (fun hc => op_loadT (R := rI) (u := (t8.1).Kind) tok3 (.cond z0 hc) rfl) <| .g rfl rfl (.b 2 rfl) (fun hc => op_eql (.cond z0 hc) .k) <| .o (op_or z3 (fun hp => (.cond z0 (beqF hp)))) <| .o (op_assign z0) <| .n) fun n2 a w hst => ?_
 replace hst := hst.to [23,25,26] [_,_,_] [] rfl rfl
 obtain ⟨t35,ht35,h⟩ := bind_some h
 obtain ⟨t45,ht45,h⟩ := bind_some h
 refine sr mixed [] hst (fun _ => .o (op_load tok79 z2) <| .o (op_callF call193 (typing_spot_lost_ok ht35) (.cons (.of z0) <| .nil)) <| .p (T := rStyping_fault.ty (Styping_fault.mk t35 (12:Int))) rfl (op_build ud72 pl72 zv72 zc72 (.cons (R := rBool) (u := t35) rfl z0 (leb rfl) <| .cons (R := rI) (u := (12:Int)) rfl .k (leb rfl) <| .nil _)) <| .q 4 rfl <| .o (op_not z0) <| .q 0 rfl <| .g rfl rfl (.b 0 rfl) (fun _ => op_move z6) <| .g rfl rfl (.b 1 rfl) (fun hc => op_not (.cond z0 hc)) <| .o (op_or z2 (fun hp => (.cond z0 (beqF hp)))) <| .p (T := rStyping_fault.ty (Styping_fault.mk ((!t8.2) || (!((((((t8.1).Kind == (2:Int)) || ((t8.1).Kind == (3:Int))) || ((t8.1).Kind == (4:Int))) || ((t8.1).Kind == (5:Int))) || ((t8.1).Kind == (8:Int))))) (13:Int))) rfl (op_build ud72 pl72 zv72 zc72 (.cons (R := rBool) (u := ((!t8.2) || (!((((((t8.1).Kind == (2:Int)) || ((t8.1).Kind == (3:Int))) || ((t8.1).Kind == (4:Int))) || ((t8.1).Kind == (5:Int))) || ((t8.1).Kind == (8:Int)))))) rfl z0 (leb rfl) <| .cons (R := rI) (u := (13:Int)) rfl .k (leb rfl) <| .nil _)) <| .o (op_buildSl (R := rStyping_fault) (us := [(Styping_fault.mk t35 (12:Int)),(Styping_fault.mk ((!t8.2) || (!((((((t8.1).Kind == (2:Int)) || ((t8.1).Kind == (3:Int))) || ((t8.1).Kind == (4:Int))) || ((t8.1).Kind == (5:Int))) || ((t8.1).Kind == (8:Int))))) (13:Int))]) ud135 tok72 (.cons z7 <| .cons z0 <| .nil _) rfl (leb rfl)) <| .o (op_callF call35 (typing_first_ok ht45) (.cons (.of z0) <| .nil)) <| .o (op_assign z0) <| .n) fun n3 a w hst => ?_
 replace hst := hst.to [12] [_] [] rfl rfl
 refine wp_ret ?_
 obtain rfl := sj h
 exact ret_st undef [] hpl hst rfl (.tmp z0 .nil) rfl rfl rfl

noncomputable def fChecks (i : Int) : Option (Styping_spot → Option Int) := if i = 0 then some ftyping_checksq1 else if i = 1 then some ftyping_checksq2 else if i = 4 then some ftyping_checksq3 else if i = 5 then some ftyping_checksq4 else if i = 6 then some ftyping_checksq5 else if i = 7 then some ftyping_checksq6 else if i = 8 then some ftyping_checksq7 else none
set_option maxRecDepth 100000 in
theorem op_lookG0 {Γ : List (Nat × Ty)} {d : Option Tmp} {ty : TypeId} {pos : String} {af : Array Edge} {g : Option (Nat × Bool)} {x y : Operand} {i : Int} (hx : Fct Γ x tgloM0) (hi : Fct Γ y (tv (.int .i64 i))) :
  OpJ Tryz.prog ⟨d,.lookup 77 x y true,ty,pos,af,g⟩ Γ [] [] (fun _ => []) (fun _ => ttup [rSX_check.ty (SX_check.mk (fChecks i)),tv (.bool (fChecks i).isSome)]) := by
 have key : (findE ents0 i).isSome = (fChecks i).isSome ∧ ∀ F w,(rSX_check.ty (SX_check.mk (fChecks i))).ok F w ((findE ents0 i).getD (.agg #[.nilFunc])) := by
  unfold fChecks
  by_cases h0 : i = 0
  ·subst h0; exact ⟨rfl,fun F w => ⟨_,rfl,.cons ⟨196,[],⟨[],rfl,.nil⟩,call196,fun _ _ hq => typing_checksq1_ok hq⟩ .nil⟩⟩
  by_cases h1 : i = 1
  ·subst h1; exact ⟨rfl,fun F w => ⟨_,rfl,.cons ⟨197,[],⟨[],rfl,.nil⟩,call197,fun _ _ hq => typing_checksq2_ok hq⟩ .nil⟩⟩
  by_cases h4 : i = 4
  ·subst h4; exact ⟨rfl,fun F w => ⟨_,rfl,.cons ⟨198,[],⟨[],rfl,.nil⟩,call198,fun _ _ hq => typing_checksq3_ok hq⟩ .nil⟩⟩
  by_cases h5 : i = 5
  ·subst h5; exact ⟨rfl,fun F w => ⟨_,rfl,.cons ⟨199,[],⟨[],rfl,.nil⟩,call199,fun _ _ hq => typing_checksq4_ok hq⟩ .nil⟩⟩
  by_cases h6 : i = 6
  ·subst h6; exact ⟨rfl,fun F w => ⟨_,rfl,.cons ⟨201,[],⟨[],rfl,.nil⟩,call201,fun _ _ hq => typing_checksq5_ok hq⟩ .nil⟩⟩
  by_cases h7 : i = 7
  ·subst h7; exact ⟨rfl,fun F w => ⟨_,rfl,.cons ⟨202,[],⟨[],rfl,.nil⟩,call202,fun _ _ hq => typing_checksq6_ok hq⟩ .nil⟩⟩
  by_cases h8 : i = 8
  ·subst h8; exact ⟨rfl,fun F w => ⟨_,rfl,.cons ⟨204,[],⟨[],rfl,.nil⟩,call204,fun _ _ hq => typing_checksq7_ok hq⟩ .nil⟩⟩
  simp only [findE,ents0,if_neg h0,if_neg h1,if_neg h4,if_neg h5,if_neg h6,if_neg h7,if_neg h8]
  exact ⟨rfl,fun F w => ⟨_,rfl,.cons rfl .nil⟩⟩
 have h := op_lookC (P := Tryz.prog) (Γ := Γ) (d := d) (ty := ty) (pos := pos) (af := af) (g := g) (V := fun _ => rSX_check.ty (SX_check.mk (fChecks i))) Tryz.underlying77 ud3 zv75 hx hi key.2
 rw [key.1] at h
 exact h
/- diorama/typing.Check -/
noncomputable def ftyping_Check (x_ : Sapi_Schema) : Option ((List Styping_Problem)) := (fschema_Valid x_).bind fun t18 => (if (t18 != (0:Int)) = true then (some [(Styping_Problem.mk (-1:Int) (-1:Int) (-1:Int) t18)]) else (tailrec (fun (s12 : Int × List Styping_Problem) => ((if (decide (s12.1 < ((x_).Lives.length : Int))) = true then (idx (x_).Lives s12.1).bind fun t31 => (sub (x_).Lives (0:Int) s12.1).bind fun t36 => (fslices_ContainsFunc_Life t36 (fun x0 => ftyping_Checkq2 x0 t31)).bind fun t38 => (ftyping_first [(Styping_fault.mk t38 (7:Int))]).bind fun t44 => (ftyping_Checkq1 (-1:Int) s12.1 (-1:Int) t44 s12.2).bind fun t45 => (some (.inl ((IntKind.i64.wrap (s12.1 + (1:Int))),t45))) else (some (.inr s12.2))) : Option ((Int × List Styping_Problem) ⊕ ((List Styping_Problem))))) ((0:Int),([] : List Styping_Problem))).bind fun (p29 : (List Styping_Problem)) => (tailrec (fun (s33 : Int × List Styping_Problem) => ((if (decide (s33.1 < ((x_).Kinds.length : Int))) = true then (idx (x_).Kinds s33.1).bind fun t53 => (ftyping_kind x_ s33.1).bind fun t59 => (ftyping_Checkq1 s33.1 (-1:Int) (-1:Int) t59 s33.2).bind fun t60 => (tailrec (fun (s182 : Int × List Styping_Problem) => ((if (decide (s182.1 < ((t53).Fields.length : Int))) = true then (idx (t53).Fields s182.1).bind fun t67 => (ftyping_Field t53 (t67).Name).bind fun t72 => (ftyping_first [(Styping_fault.mk (decide (t72 < s182.1)) (7:Int))]).bind fun t77 => ((if ((fChecks (t67).Kind).isSome && (t77 == (0:Int))) = true then (callO ((SX_check.mk (fChecks (t67).Kind))).check (Styping_spot.mk x_ s33.1 s182.1 t67)).bind fun t97 => (some t97) else (some t77))).bind fun (p226 : Int) => (ftyping_Checkq1 s33.1 s182.1 (-1:Int) p226 s182.2).bind fun t102 => (some (.inl ((IntKind.i64.wrap (s182.1 + (1:Int))),t102))) else (some (.inr s182.2))) : Option ((Int × List Styping_Problem) ⊕ ((List Styping_Problem))))) ((0:Int),t60)).bind fun (p213 : (List Styping_Problem)) => (some (.inl ((IntKind.i64.wrap (s33.1 + (1:Int))),p213))) else (some (.inr s33.2))) : Option ((Int × List Styping_Problem) ⊕ ((List Styping_Problem))))) ((0:Int),p29)).bind fun (p148 : (List Styping_Problem)) => (tailrec (fun (s152 : Int × List Styping_Problem) => ((if (decide (s152.1 < ((x_).Rules.length : Int))) = true then (ftyping_rule x_ s152.1).bind fun t115 => (ftyping_Checkq1 (-1:Int) (-1:Int) s152.1 t115 s152.2).bind fun t116 => (some (.inl ((IntKind.i64.wrap (s152.1 + (1:Int))),t116))) else (some (.inr s152.2))) : Option ((Int × List Styping_Problem) ⊕ ((List Styping_Problem))))) ((0:Int),p148)).bind fun (p165 : (List Styping_Problem)) => (some p165))
set_option maxRecDepth 100000 in
set_option maxHeartbeats 4000000 in
theorem typing_Check_ok {x_ : Sapi_Schema} {r : (List Styping_Problem)} (h : ftyping_Check x_ = some r) : FnOk Tryz.prog 10 [rSapi_Schema.ty x_] [glo] (fun _ => []) (fun _ => tsl rStyping_Problem r) := by
 unfold ftyping_Check at h
 refine FnOk.enter Tryz.func10 rfl Tryz.ntmps10 (leb rfl) (fun M0 M w0 a hpl hst => ?_)
 replace hst : St M w0 119 [(0,rSapi_Schema.ty x_)] [glo] a w0 := hst
 refine sr mixed [] hst (fun _ => .o (op_boxR (R := rSapi_Schema) (u := x_) z0) <| .o (op_assign (.nilsl (R := rStyping_Problem))) <| .n) fun n0 a w hst => ?_
 replace hst := hst.to [0] [_] [_] rfl rfl
 refine wp_seq_k (fun K2 hK2 => ?_)
 obtain ⟨t18,ht18,h⟩ := bind_some h
 refine sr mixed [] hst (fun _ => .o (op_load tok34 z0) <| .u [0] rfl rfl ((op_callF call28 (schema_Valid_ok ht18) (.cons (.of z0) <| .nil)).glo) <| .o (op_assign z0) <| .n) fun n1 a w hst => ?_
 replace hst := hst.to [2,3] [_,_] [_] rfl rfl
 refine sr mixed [] hst (fun _ => .q 0 rfl <| .o (op_neq z0 .k) <| .n) fun n2 a w hst => ?_
 replace hst := hst.to [1,2,3] [_,_,_] [_] rfl rfl
 refine wt hst (fun b239 => ?_) (fun b239 => ?_)
 ·replace h := ite_t b239 h
  refine sr mixed [] hst (fun _ => .q 1 rfl <| .p (T := rStyping_Problem.ty (Styping_Problem.mk (-1:Int) (-1:Int) (-1:Int) t18)) rfl (op_build Tryz.underlying63 pl63 zv63 zc63 (.cons (R := rI) (u := (-1:Int)) rfl .k (leb rfl) <| .cons (R := rI) (u := (-1:Int)) rfl .k (leb rfl) <| .cons (R := rI) (u := (-1:Int)) rfl .k (leb rfl) <| .cons (R := rI) (u := t18) rfl z0 (leb rfl) <| .nil _)) <| .o (op_buildSl (R := rStyping_Problem) (us := [(Styping_Problem.mk (-1:Int) (-1:Int) (-1:Int) t18)]) ud28 tok63 (.cons z0 <| .nil _) rfl (leb rfl)) <| .o (op_assign z0) <| .n) fun n3 a w hst => ?_
  replace hst := hst.to [3] [_] [_] rfl rfl
  refine wp_ret ?_
  obtain rfl := sj h
  exact ret_st undef [] hpl hst rfl (.tmp z0 .nil) rfl rfl rfl
 ·replace h := ite_f b239 h
  refine wp_skip ?_
  refine hK2 _ _ ?_
  try clear hK2 K2
  refine sr mixed [v1 0 (fun v0 => box (rVal.cs nilV) v0)] hst (fun _ => .m [] [1] rfl rfl rfl (op_allocV tokV28) <| .n) fun n4 a w hst => ?_
  replace hst : St _ _ _ [_,_] [_,_,_] _ _ := (hst.pick [0,3]).nil (rStyping_Problem) 63
  refine sr mixed [] hst (fun _ => .o (op_clo (.cons z0 <| .nil)) <| .o (op_assign z0) <| .n) fun n5 a w hst => ?_
  replace hst := hst.to [1,2,3] [_,_,_] [_,_,_] rfl rfl
  refine wp_seq_k (fun K10 hK10 => ?_)
  refine sr mixed [] hst (fun _ => .o (op_field fld34_2 z2) <| .o (op_loadT (R := (rSl rSapi_Life)) (u := (x_).Lives) tok31 z0 rfl) <| .o (op_len ud31 z0) <| .o (op_move .k) <| .n) fun n6 a w hst => ?_
  replace hst := hst.to [1,2,3,4,5,6] [_,_,_,_,_,_] [_,_,_] rfl rfl
  obtain ⟨e13,he13,h⟩ := bind_some h
  have hJp29 : ∀ (p29 : List Styping_Problem) (v30 : Value) a w,p29 = e13 → St M w0 119 [(5,tcloE 32 [tv (n4 0)]),(4,tv (n4 0)),(1,tptr (rSapi_Schema.cs x_))] [own rStyping_Problem 63 p29 v30,glo,box (rVal.cs v30) (n4 0)] a w → K10 a w := by
   intro p29 v30 a w he hst
   subst he
   refine hK10 _ _ ?_
   try clear hK10 K10
   refine wp_seq_k (fun K31 hK31 => ?_)
   refine sr mixed [] hst (fun _ => .o (op_field fld34_1 z2) <| .o (op_loadT (R := (rSl rSapi_Kind)) (u := (x_).Kinds) tok30 z0 rfl) <| .o (op_len ud30 z0) <| .o (op_move .k) <| .n) fun n12 a w hst => ?_
   replace hst := hst.to [1,2,3,4,5,6] [_,_,_,_,_,_] [_,_,_] rfl rfl
   obtain ⟨e34,he34,h⟩ := bind_some h
   have hJp148 : ∀ (p148 : List Styping_Problem) (v149 : Value) a w,p148 = e34 → St M w0 119 [(5,tcloE 32 [tv (n4 0)]),(4,tv (n4 0)),(1,tptr (rSapi_Schema.cs x_))] [own rStyping_Problem 63 p148 v149,glo,box (rVal.cs v149) (n4 0)] a w → K31 a w := by
    intro p148 v149 a w he hst
    subst he
    refine hK31 _ _ ?_
    try clear hK31 K31
    refine wp_seq_k (fun K150 hK150 => ?_)
    refine sr mixed [] hst (fun _ => .o (op_field fld34_3 z2) <| .o (op_loadT (R := (rSl rSapi_Rule)) (u := (x_).Rules) tok32 z0 rfl) <| .o (op_len ud32 z0) <| .o (op_move .k) <| .n) fun n26 a w hst => ?_
    replace hst := hst.to [2,3,4,5,6] [_,_,_,_,_] [_,_,_] rfl rfl
    obtain ⟨e153,he153,h⟩ := bind_some h
    have hJp165 : ∀ (p165 : List Styping_Problem) (v166 : Value) a w,p165 = e153 → St M w0 119 [(4,tv (n4 0))] [own rStyping_Problem 63 p165 v166,glo,box (rVal.cs v166) (n4 0)] a w → K150 a w := by
     intro p165 v166 a w he hst
     subst he
     refine hK150 _ _ ?_
     try clear hK150 K150
     refine sr mixed [] hst (fun _ => .u [2] rfl rfl (op_loadBV tokV28 z0) <| .o (op_assign z0) <| .n) fun n31 a w hst => ?_
     replace hst : St _ _ _ [_,_] [_,_] _ _ := (hst.pick [0,1]).selA [0,1] rfl
     refine wp_ret ?_
     replace hst : St _ _ _ [_] [_] _ _ := (hst.shareO 1 rfl).pick [0]
     obtain rfl := sj h
     exact ret_st undef [] hpl hst rfl (.tmp z0 .nil) rfl rfl rfl
    refine wp_block ?_
    refine wp_loopK _ (fun (s152 : Int × List Styping_Problem) a w => ∃ v159 : Value,St M w0 119 [(107,ti ((x_).Rules.length : Int)),(108,ti s152.1),(5,tcloE 32 [tv (n4 0)]),(4,tv (n4 0)),(1,tptr (rSapi_Schema.cs x_))] [own rStyping_Problem 63 s152.2 v159,glo,box (rVal.cs v159) (n4 0)] a w) _ _ he153 ⟨v149,hst.pick [0,1,2,3,4]⟩ ?_
    clear h
    intro s152 o a w K168 hI h ho hK168
    obtain ⟨v159,hst⟩ := hI
    refine sr mixed [] hst (fun _ => .o (op_lss z1 z0) <| .n) fun n27 a w hst => ?_
    replace hst := hst.to [0,1,2,3,4,5] [_,_,_,_,_,_] [_,_,_] rfl rfl
    refine wp_seq_k (fun K170 hK170 => ?_)
    refine wt hst (fun b173 => ?_) (fun b173 => ?_)
    ·replace h := ite_t b173 h
     refine wp_skip ?_
     refine hK170 _ _ ?_
     try clear hK170 K170
     refine wp_seq_k (fun K171 hK171 => ?_)
     refine wp_block ?_
     refine sr mixed [] hst (fun _ => .q 2 rfl <| .o (op_assign z0) <| .n) fun n28 a w hst => ?_
     replace hst := hst.to [1,3,4,5,6,7] [_,_,_,_,_,_] [_,_,_] rfl rfl
     obtain ⟨t115,ht115,h⟩ := bind_some h
     obtain ⟨t116,ht116,h⟩ := bind_some h
     refine wr mixed [v1 5 (fun v0 => box (rVal.cs v0) (n4 0)),v1 5 (fun v0 => own rStyping_Problem 63 t116 v0)] hst (fun _ => .q 3 rfl <| .q 1 rfl <| .o (op_load tok34 z7) <| .q 3 rfl <| .o (op_callF call37 (typing_rule_ok ht115) (.cons (.of z1) <| .cons (.of z0) <| .nil)) <| .e [] [2,0] [3,4] rfl rfl rfl rfl (op_callC call32 (typing_Checkq1_ok ht116) z4 (.cons (.of .k) <| .cons (.of .k) <| .cons (.of z3) <| .cons (.of z0) <| .nil)) <| .n) fun n29 a w hst => ?_
     replace hst := hst.to [7,8,9,10,11] [_,_,_,_,_] [_,_,_] rfl rfl
     refine hK171 _ _ ?_
     try clear hK171 K171
     refine wr mixed [] hst (fun _ => .o (op_add z1 .k) <| .q 0 rfl <| .n) fun n30 a w hst => ?_
     replace hst := hst.to [1,2,3,4,5] [_,_,_,_,_] [_,_,_] rfl rfl
     exact hK168 _ _ _ (sj h).symm ⟨(n29 5),(hst.pick [1,0,2,3,4]).selA [2,0,1] rfl⟩
    ·replace h := ite_f b173 h
     refine wp_exit ?_
     exact hJp165 _ v159 _ _ (ho _ (sj h).symm) (hst.pick [4])
   refine wp_block ?_
   refine wp_loopK _ (fun (s33 : Int × List Styping_Problem) a w => ∃ v91 : Value,St M w0 119 [(48,tsl rSapi_Kind (x_).Kinds),(49,ti ((x_).Kinds.length : Int)),(50,ti s33.1),(5,tcloE 32 [tv (n4 0)]),(4,tv (n4 0)),(1,tptr (rSapi_Schema.cs x_))] [own rStyping_Problem 63 s33.2 v91,glo,box (rVal.cs v91) (n4 0)] a w) _ _ he34 ⟨v30,hst.pick [0,1,2,3,4,5]⟩ ?_
   clear h
   intro s33 o a w K174 hI h ho hK174
   obtain ⟨v91,hst⟩ := hI
   refine sr mixed [] hst (fun _ => .o (op_lss z2 z1) <| .n) fun n13 a w hst => ?_
   replace hst := hst.to [0,1,2,3,4,5,6] [_,_,_,_,_,_,_] [_,_,_] rfl rfl
   refine wp_seq_k (fun K176 hK176 => ?_)
   refine wt hst (fun b230 => ?_) (fun b230 => ?_)
   ·replace h := ite_t b230 h
    refine wp_skip ?_
    refine hK176 _ _ ?_
    try clear hK176 K176
    refine wp_seq_k (fun K177 hK177 => ?_)
    refine wp_block ?_
    obtain ⟨t53,ht53,h⟩ := bind_some h
    refine sr mixed [v1 3 (fun v0 => box (rSapi_Kind.cs zz1) v0),v1 3 (fun v0 => box (rSapi_Kind.cs t53) v0)] hst (fun _ => .q 3 rfl <| .o (op_index ud30 tok47 z2 z4 ht53) <| .o (op_load tok47 z0) <| .m [] [3] rfl rfl rfl (op_alloc (R := rSapi_Kind) (a := zz1) tok47 zok47) <| .o (op_assign z3) <| .e [] [3] [4] rfl rfl rfl rfl (op_storeB (R := rSapi_Kind) (a := t53) tok47 z1 z2 (leb rfl)) <| .n) fun n14 a w hst => ?_
    replace hst : St _ _ _ [_,_,_,_,_,_,_,_] [_,_,_] _ _ := ((((hst.pick [3,4,6,7,8,9,10,11]).selA [3,0,1,2] rfl).shareB 0 rfl).add 0 rfl (fun _ _ _ h => h.2)).pick [0,3,4,5,6,7,8,9]
    obtain ⟨t59,ht59,h⟩ := bind_some h
    obtain ⟨t60,ht60,h⟩ := bind_some h
    refine sr mixed [v1 5 (fun v0 => box (rVal.cs v0) (n4 0)),v1 5 (fun v0 => own rStyping_Problem 63 t60 v0)] hst (fun _ => .q 5 rfl <| .q 2 rfl <| .o (op_load tok34 z9) <| .q 4 rfl <| .o (op_callF call36 (typing_kind_ok ht59) (.cons (.of z1) <| .cons (.of z0) <| .nil)) <| .e [] [2,0] [3,4] rfl rfl rfl rfl (op_callC call32 (typing_Checkq1_ok ht60) z4 (.cons (.of z3) <| .cons (.of .k) <| .cons (.of .k) <| .cons (.of z0) <| .nil)) <| .n) fun n15 a w hst => ?_
    replace hst := hst.to [6,7,8,9,10,11,12,13] [_,_,_,_,_,_,_,_] [_,_,_] rfl rfl
    refine sr mixed [] hst (fun _ => .o (op_field fld47_3 z0) <| .o (op_loadT (R := (rSl rSapi_Field)) (u := (t53).Fields) tok45 z0 rfl) <| .o (op_len ud45 z0) <| .o (op_move .k) <| .n) fun n16 a w hst => ?_
    replace hst := hst.to [1,2,3,4,5,6,7,8,9,10,11] [_,_,_,_,_,_,_,_,_,_,_] [_,_,_] rfl rfl
    obtain ⟨e183,he183,h⟩ := bind_some h
    have hJp213 : ∀ (p213 : List Styping_Problem) (v214 : Value) a w,p213 = e183 → St M w0 119 [(48,tsl rSapi_Kind (x_).Kinds),(49,ti ((x_).Kinds.length : Int)),(50,ti s33.1),(5,tcloE 32 [tv (n4 0)]),(4,tv (n4 0)),(1,tptr (rSapi_Schema.cs x_))] [glo,box (rVal.cs v214) (n4 0),own rStyping_Problem 63 p213 v214] a w → K177 a w := by
     intro p213 v214 a w he hst
     subst he
     refine hK177 _ _ ?_
     try clear hK177 K177
     refine wr mixed [] hst (fun _ => .o (op_add z2 .k) <| .q 0 rfl <| .n) fun n25 a w hst => ?_
     replace hst := hst.to [1,2,3,4,5,6] [_,_,_,_,_,_] [_,_,_] rfl rfl
     exact hK174 _ _ _ (sj h).symm ⟨v214,(hst.pick [1,2,0,3,4,5]).selA [2,0,1] rfl⟩
    refine wp_block ?_
    refine wp_loopK _ (fun (s182 : Int × List Styping_Problem) a w => ∃ v198 : Value,St M w0 119 [(62,tsl rSapi_Field (t53).Fields),(63,ti ((t53).Fields.length : Int)),(64,ti s182.1),(10,tptr (rSapi_Kind.cs t53)),(9,ti s33.1),(48,tsl rSapi_Kind (x_).Kinds),(49,ti ((x_).Kinds.length : Int)),(50,ti s33.1),(5,tcloE 32 [tv (n4 0)]),(4,tv (n4 0)),(1,tptr (rSapi_Schema.cs x_))] [glo,box (rVal.cs v198) (n4 0),own rStyping_Problem 63 s182.2 v198] a w) _ _ he183 ⟨(n15 5),hst.pick [0,1,2,3,4,5,6,7,8,9,10]⟩ ?_
    clear h
    intro s182 o a w K215 hI h ho hK215
    obtain ⟨v198,hst⟩ := hI
    refine sr mixed [] hst (fun _ => .o (op_lss z2 z1) <| .n) fun n17 a w hst => ?_
    replace hst := hst.to [0,1,2,3,4,5,6,7,8,9,10,11] [_,_,_,_,_,_,_,_,_,_,_,_] [_,_,_] rfl rfl
    refine wp_seq_k (fun K217 hK217 => ?_)
    refine wt hst (fun b229 => ?_) (fun b229 => ?_)
    ·replace h := ite_t b229 h
     refine wp_skip ?_
     refine hK217 _ _ ?_
     try clear hK217 K217
     refine wp_seq_k (fun K218 hK218 => ?_)
     refine wp_block ?_
     obtain ⟨t67,ht67,h⟩ := bind_some h
     refine sr mixed [v1 3 (fun v0 => box (rSapi_Field.cs zz0) v0),v1 3 (fun v0 => box (rSapi_Field.cs t67) v0)] hst (fun _ => .q 3 rfl <| .o (op_index ud45 tok44 z2 z4 ht67) <| .o (op_load tok44 z0) <| .m [] [3] rfl rfl rfl (op_alloc (R := rSapi_Field) (a := zz0) tok44 zok44) <| .o (op_assign z3) <| .e [] [3] [4] rfl rfl rfl rfl (op_storeB (R := rSapi_Field) (a := t67) tok44 z1 z2 (leb rfl)) <| .n) fun n18 a w hst => ?_
     replace hst : St _ _ _ [_,_,_,_,_,_,_,_,_,_,_,_,_] [_,_,_] _ _ := ((((hst.pick [3,4,6,7,8,9,10,11,12,13,14,15,16]).selA [3,0,1,2] rfl).shareB 0 rfl).add 0 rfl (fun _ _ _ h => h.2)).pick [0,3,4,5,6,7,8,9,10,11,12,13,14]
     obtain ⟨t72,ht72,h⟩ := bind_some h
     obtain ⟨t77,ht77,h⟩ := bind_some h
     refine sr mixed [] hst (fun _ => .o (op_load tok47 z5) <| .o (op_field fld44_0 z1) <| .o (op_loadT (R := rS) (u := (t67).Name) tok9 z0 rfl) <| .o (op_callF call20 (typing_Field_ok ht72) (.cons (.of z2) <| .cons (.of z0) <| .nil)) <| .q 5 rfl <| .o (op_lss z1 z0) <| .p (T := rStyping_fault.ty (Styping_fault.mk (decide (t72 < s182.1)) (7:Int))) rfl (op_build ud72 pl72 zv72 zc72 (.cons (R := rBool) (u := (decide (t72 < s182.1))) rfl z0 (leb rfl) <| .cons (R := rI) (u := (7:Int)) rfl .k (leb rfl) <| .nil _)) <| .o (op_buildSl (R := rStyping_fault) (us := [(Styping_fault.mk (decide (t72 < s182.1)) (7:Int))]) ud135 tok72 (.cons z0 <| .nil _) rfl (leb rfl)) <| .o (op_callF call35 (typing_first_ok ht77) (.cons (.of z0) <| .nil)) <| .o (op_assign z0) <| .n) fun n19 a w hst => ?_
     replace hst := hst.to [9,10,11,12,13,14,15,16,17,18,19,20,21,22] [_,_,_,_,_,_,_,_,_,_,_,_,_,_] [_,_,_] rfl rfl
     refine wp_seq_k (fun K222 hK222 => ?_)
     refine sr mixed [v1 7 (fun v0 => box (rSX_check.cs (SX_check.mk none)) v0),v1 7 (fun v0 => box (rSX_check.cs (SX_check.mk (fChecks (t67).Kind))) v0)] hst (fun _ => .u [0] rfl rfl (op_loadG (R := rMapC ents0) (u := ()) glo_has0 tokM0 rfl) <| .o (op_field fld44_3 z2) <| .o (op_loadT (R := rI) (u := (t67).Kind) tok3 z0 rfl) <| .o (op_lookG0 z2 z0) <| .q 0 rfl <| .o (op_extract z0 rfl) <| .o (op_extract z1 rfl) <| .m [] [3] rfl rfl rfl (op_alloc (R := rSX_check) (a := (SX_check.mk none)) tok75 zok75) <| .e [] [3] [4] rfl rfl rfl rfl (op_storeB (R := rSX_check) (a := (SX_check.mk (fChecks (t67).Kind))) tok75 z0 z2 (leb rfl)) <| .o (op_assign z1) <| .n) fun n20 a w hst => ?_
     replace hst : St _ _ _ [_,_,_,_,_,_,_,_,_,_,_,_,_,_,_,_] [_,_,_] _ _ := ((((hst.pick [7,8,9,10,11,12,13,14,15,16,17,18,19,20,21,22]).selA [3,0,1,2] rfl).shareB 0 rfl).add 0 rfl (fun _ _ _ h => h.2)).pick [0,3,4,5,6,7,8,9,10,11,12,13,14,15,16,17]
     refine sr mixed [] hst (fun _ => .q 1 rfl <| .q 0 rfl <| .g rfl rfl (.b 0 rfl) (fun _ => op_move z4) <| .g rfl rfl (.b 1 rfl) (fun hc => op_eql (.cond z0 hc) .k) <| .o (op_and z2 (fun hp => (.cond z0 (beqT hp)))) <| .n) fun n21 a w hst => ?_
     replace hst := hst.to [4,5,7,8,9,10,11,12,13,14,15,16,17,18,19,20] [_,_,_,_,_,_,_,_,_,_,_,_,_,_,_,_] [_,_,_] rfl rfl
     obtain ⟨p226,hp226,h⟩ := bind_some h
     have hJp226 : ∀ a w,St M w0 119 [(13,ti p226),(11,ti s182.1),(62,tsl rSapi_Field (t53).Fields),(63,ti ((t53).Fields.length : Int)),(64,ti s182.1),(10,tptr (rSapi_Kind.cs t53)),(9,ti s33.1),(48,tsl rSapi_Kind (x_).Kinds),(49,ti ((x_).Kinds.length : Int)),(50,ti s33.1),(5,tcloE 32 [tv (n4 0)]),(4,tv (n4 0)),(1,tptr (rSapi_Schema.cs x_))] [glo,box (rVal.cs v198) (n4 0),own rStyping_Problem 63 s182.2 v198] a w → K222 a w := by
      intro a w hst
      refine hK222 _ _ ?_
      try clear hK222 K222
      obtain ⟨t102,ht102,h⟩ := bind_some h
      refine wr mixed [v1 4 (fun v0 => box (rVal.cs v0) (n4 0)),v1 4 (fun v0 => own rStyping_Problem 63 t102 v0)] hst (fun _ => .q 10 rfl <| .q 7 rfl <| .q 3 rfl <| .q 3 rfl <| .e [] [1,2] [3,4] rfl rfl rfl rfl (op_callC call32 (typing_Checkq1_ok ht102) z3 (.cons (.of z2) <| .cons (.of z1) <| .cons (.of .k) <| .cons (.of z0) <| .nil)) <| .n) fun n23 a w hst => ?_
      replace hst := hst.to [7,8,9,10,11,12,13,14,15,16,17] [_,_,_,_,_,_,_,_,_,_,_] [_,_,_] rfl rfl
      refine hK218 _ _ ?_
      try clear hK218 K218
      refine wr mixed [] hst (fun _ => .o (op_add z2 .k) <| .q 0 rfl <| .n) fun n24 a w hst => ?_
      replace hst := hst.to [1,2,3,4,5,6,7,8,9,10,11] [_,_,_,_,_,_,_,_,_,_,_] [_,_,_] rfl rfl
      exact hK215 _ _ _ (sj h).symm ⟨(n23 4),hst.pick [1,2,0,3,4,5,6,7,8,9,10]⟩
     replace h := hp226
     clear hp226
     refine wt hst (fun b228 => ?_) (fun b228 => ?_)
     ·replace h := ite_t b228 h
      obtain ⟨t97,ht97,h⟩ := bind_some h
      refine wr mixed [] hst (fun _ => .o (op_field fld75_0 z1) <| .o (op_loadT (R := rFo74) (u := ((SX_check.mk (fChecks (t67).Kind))).check) tokFo74 z0 rfl) <| .o (op_load tok34 z17) <| .q 12 rfl <| .q 8 rfl <| .o (op_load tok44 z8) <| .p (T := rStyping_spot.ty (Styping_spot.mk x_ s33.1 s182.1 t67)) rfl (op_build Tryz.underlying79 pl79 zv79 zc79 (.cons (R := rSapi_Schema) (u := x_) rfl z3 (leb rfl) <| .cons (R := rI) (u := s33.1) rfl z2 (leb rfl) <| .cons (R := rI) (u := s182.1) rfl z1 (leb rfl) <| .cons (R := rSapi_Field) (u := t67) rfl z0 (leb rfl) <| .nil _)) <| .o (op_callO (u := (Styping_spot.mk x_ s33.1 s182.1 t67)) z5 (.cons (.of z0) <| .nil) ht97) <| .o (op_assign z0) <| .n) fun n22 a w hst => ?_
      replace hst := hst.to [8,12,13,14,15,16,17,18,19,20,21,22,23] [_,_,_,_,_,_,_,_,_,_,_,_,_] [_,_,_] rfl rfl
      obtain rfl := sj h
      exact hJp226 _ _ (hst.pick [0,1,2,3,4,5,6,7,8,9,10,11,12])
     ·replace h := ite_f b228 h
      refine wp_skip ?_
      obtain rfl := sj h
      exact hJp226 _ _ (hst.pick [2,4,5,6,7,8,9,10,11,12,13,14,15])
    ·replace h := ite_f b229 h
     refine wp_exit ?_
     exact hJp213 _ v198 _ _ (ho _ (sj h).symm) (hst.pick [6,7,8,9,10,11])
   ·replace h := ite_f b230 h
    refine wp_exit ?_
    exact hJp148 _ v91 _ _ (ho _ (sj h).symm) (hst.pick [4,5,6])
  refine wp_block ?_
  refine wp_loopK _ (fun (s12 : Int × List Styping_Problem) a w => ∃ v21 : Value,St M w0 119 [(26,tsl rSapi_Life (x_).Lives),(27,ti ((x_).Lives.length : Int)),(28,ti s12.1),(5,tcloE 32 [tv (n4 0)]),(4,tv (n4 0)),(1,tptr (rSapi_Schema.cs x_))] [own rStyping_Problem 63 s12.2 v21,glo,box (rVal.cs v21) (n4 0)] a w) _ _ he13 ⟨nilV,hst.pick [0,1,2,3,4,5]⟩ ?_
  clear h
  intro s12 o a w K231 hI h ho hK231
  obtain ⟨v21,hst⟩ := hI
  refine sr mixed [] hst (fun _ => .o (op_lss z2 z1) <| .n) fun n7 a w hst => ?_
  replace hst := hst.to [0,1,2,3,4,5,6] [_,_,_,_,_,_,_] [_,_,_] rfl rfl
  refine wp_seq_k (fun K233 hK233 => ?_)
  refine wt hst (fun b238 => ?_) (fun b238 => ?_)
  ·replace h := ite_t b238 h
   refine wp_skip ?_
   refine hK233 _ _ ?_
   try clear hK233 K233
   refine wp_seq_k (fun K234 hK234 => ?_)
   refine wp_block ?_
   obtain ⟨t31,ht31,h⟩ := bind_some h
   refine sr mixed [v1 3 (fun v0 => box (rSapi_Life.cs zz2) v0),v1 3 (fun v0 => box (rSapi_Life.cs t31) v0)] hst (fun _ => .q 3 rfl <| .o (op_index ud31 tok67 z2 z4 ht31) <| .o (op_load tok67 z0) <| .m [] [3] rfl rfl rfl (op_alloc (R := rSapi_Life) (a := zz2) tok67 zok67) <| .o (op_assign z3) <| .e [] [3] [4] rfl rfl rfl rfl (op_storeB (R := rSapi_Life) (a := t31) tok67 z1 z2 (leb rfl)) <| .n) fun n8 a w hst => ?_
   replace hst : St _ _ _ [_,_,_,_,_,_,_,_] [_,_,_] _ _ := ((((hst.pick [3,4,6,7,8,9,10,11]).selA [3,0,1,2] rfl).shareB 0 rfl).add 0 rfl (fun _ _ _ h => h.2)).pick [0,3,4,5,6,7,8,9]
   obtain ⟨t36,ht36,h⟩ := bind_some h
   obtain ⟨t38,ht38,h⟩ := bind_some h
   refine sr mixed [] hst (fun _ => .o (op_field fld34_2 z7) <| .o (op_loadT (R := (rSl rSapi_Life)) (u := (x_).Lives) tok31 z0 rfl) <| .q 3 rfl <| .o (op_slice ud31 tok67 z1 (.no _) (.op z0) ht36) <| .o (op_clo (.cons z4 <| .nil)) <| .o (op_callF call33 (slices_ContainsFunc_Life_ok ht38) (.cons (.of z1) <| .cons (.of (Fct.weak z0 (tfn_of call34 (fun _ _ hq => typing_Checkq2_ok hq)))) <| .nil)) <| .o (op_assign z0) <| .n) fun n9 a w hst => ?_
   replace hst := hst.to [6,8,9,10,11,12,13,14] [_,_,_,_,_,_,_,_] [_,_,_] rfl rfl
   obtain ⟨t44,ht44,h⟩ := bind_some h
   obtain ⟨t45,ht45,h⟩ := bind_some h
   refine wr mixed [v1 6 (fun v0 => box (rVal.cs v0) (n4 0)),v1 6 (fun v0 => own rStyping_Problem 63 t45 v0)] hst (fun _ => .q 5 rfl <| .q 2 rfl <| .q 2 rfl <| .p (T := rStyping_fault.ty (Styping_fault.mk t38 (7:Int))) rfl (op_build ud72 pl72 zv72 zc72 (.cons (R := rBool) (u := t38) rfl z0 (leb rfl) <| .cons (R := rI) (u := (7:Int)) rfl .k (leb rfl) <| .nil _)) <| .o (op_buildSl (R := rStyping_fault) (us := [(Styping_fault.mk t38 (7:Int))]) ud135 tok72 (.cons z0 <| .nil _) rfl (leb rfl)) <| .o (op_callF call35 (typing_first_ok ht44) (.cons (.of z0) <| .nil)) <| .e [] [2,0] [3,4] rfl rfl rfl rfl (op_callC call32 (typing_Checkq1_ok ht45) z5 (.cons (.of .k) <| .cons (.of z4) <| .cons (.of .k) <| .cons (.of z0) <| .nil)) <| .n) fun n10 a w hst => ?_
   replace hst := hst.to [9,10,11,12,13,14] [_,_,_,_,_,_] [_,_,_] rfl rfl
   refine hK234 _ _ ?_
   try clear hK234 K234
   refine wr mixed [] hst (fun _ => .o (op_add z2 .k) <| .q 0 rfl <| .n) fun n11 a w hst => ?_
   replace hst := hst.to [1,2,3,4,5,6] [_,_,_,_,_,_] [_,_,_] rfl rfl
   exact hK231 _ _ _ (sj h).symm ⟨(n10 6),(hst.pick [1,2,0,3,4,5]).selA [2,0,1] rfl⟩
  ·replace h := ite_f b238 h
   refine wp_exit ?_
   exact hJp29 _ v21 _ _ (ho _ (sj h).symm) (hst.pick [4,5,6])

/- diorama/learn.within$1 -/
noncomputable def flearn_withinq1 (x_ : Int) (c0_ : Int) : Option (Bool) := (some ((decide (x_ < (0:Int))) || (decide (x_ > c0_))))
set_option maxRecDepth 100000 in
set_option maxHeartbeats 4000000 in
theorem learn_withinq1_ok {x_ : Int} {c0_ : Int} {r : Bool} (h : flearn_withinq1 x_ c0_ = some r) : FnOk Tryz.prog 150 [ti x_,tptr (rI.cs c0_)] [] (fun _ => []) (fun _ => tb r) := by
 unfold flearn_withinq1 at h
 refine FnOk.enter Tryz.func150 rfl Tryz.ntmps150 (leb rfl) (fun M0 M w0 a hpl hst => ?_)
 replace hst : St M w0 11 [(0,ti x_),(1,tptr (rI.cs c0_))] [] a w0 := hst
 refine sr mixed [] hst (fun _ => .o (op_assign .k) <| .n) fun n0 a w hst => ?_
 replace hst := hst.to [1,2] [_,_] [] rfl rfl
 refine sr mixed [] hst (fun _ => .q 0 rfl <| .o (op_lss z0 .k) <| .q 0 rfl <| .g rfl rfl (.b 0 rfl) (fun _ => op_move z3) <| .g rfl rfl (.b 1 rfl) (fun _ => op_load tok3 z5) <| .g rfl rfl (.b 2 rfl) (fun hc => op_gtr (.cond z1 hc) (.cond z0 hc)) <| .o (op_or z3 (fun hp => (.cond z0 (beqF hp)))) <| .o (op_assign z0) <| .n) fun n1 a w hst => ?_
 replace hst := hst.to [7] [_] [] rfl rfl
 refine wp_ret ?_
 obtain rfl := sj h
 exact ret_st undef [] hpl hst rfl (.tmp z0 .nil) rfl rfl rfl

/- diorama/learn.within -/
noncomputable def flearn_within (l_ : (List Int)) (most_ : Int) : Option (Bool) := (opt (((decide ((l_.length : Int) ≥ (1:Int))) && (decide ((l_.length : Int) ≤ (12:Int)))) == true) (fslices_ContainsFunc_int l_ (fun x0 => flearn_withinq1 x0 most_)) default).bind fun t16 => (some (((decide ((l_.length : Int) ≥ (1:Int))) && (decide ((l_.length : Int) ≤ (12:Int)))) && (!t16)))
set_option maxRecDepth 100000 in
set_option maxHeartbeats 4000000 in
theorem learn_within_ok {l_ : (List Int)} {most_ : Int} {r : Bool} (h : flearn_within l_ most_ = some r) : FnOk Tryz.prog 119 [tsl rI l_,ti most_] [] (fun _ => []) (fun _ => tb r) := by
 unfold flearn_within at h
 refine FnOk.enter Tryz.func119 rfl Tryz.ntmps119 (leb rfl) (fun M0 M w0 a hpl hst => ?_)
 replace hst : St M w0 19 [(0,tsl rI l_),(1,ti most_)] [] a w0 := hst
 refine sr mixed [] hst (fun _ => .o (op_boxR (R := rI) (u := most_) z1) <| .o (op_assign .k) <| .n) fun n0 a w hst => ?_
 replace hst := hst.to [0,2] [_,_] [] rfl rfl
 obtain ⟨t16,ht16,h⟩ := bind_some h
 refine sr mixed [] hst (fun _ => .q 1 rfl <| .o (op_len ud22 z0) <| .o (op_geq z0 .k) <| .q 0 rfl <| .g rfl rfl (.b 0 rfl) (fun _ => op_move z5) <| .g rfl rfl (.b 1 rfl) (fun hc => op_len ud22 (.cond z0 hc)) <| .g rfl rfl (.b 2 rfl) (fun hc => op_leq (.cond z0 hc) .k) <| .o (op_and z3 (fun hp => (.cond z0 (beqT hp)))) <| .q 0 rfl <| .g rfl rfl (.b 0 rfl) (fun _ => op_move z10) <| .g rfl rfl (.b 1 rfl) (fun _ => op_clo (.cons z10 <| .nil)) <| .g rfl rfl (.b 2 rfl) (fun hc => op_callF call58 (slices_ContainsFunc_int_ok (opt_t ht16 hc)) (.cons (.of (.cond z1 hc)) <| .cons (.of (Fct.weak (.cond z0 hc) (tfn_of call150 (fun _ _ hq => learn_withinq1_ok hq)))) <| .nil)) <| .g rfl rfl (.b 3 rfl) (fun hc => op_not (.cond z0 hc)) <| .o (op_and z4 (fun hp => (.cond z0 (beqT hp)))) <| .o (op_assign z0) <| .n) fun n1 a w hst => ?_
 replace hst := hst.to [14] [_] [] rfl rfl
 refine wp_ret ?_
 obtain rfl := sj h
 exact ret_st undef [] hpl hst rfl (.tmp z0 .nil) rfl rfl rfl

/- diorama/learn.Weights -/
noncomputable def flearn_Weights (counts_ : (List Int)) (smooth_ : Int) : Option ((List Int) × Int) := (flearn_within counts_ (524288:Int)).bind fun t9 => (if (((!t9) || (decide (smooth_ < (0:Int)))) || (decide (smooth_ > (1024:Int)))) = true then (some (([] : List Int),(5:Int))) else (fslices_Clone_int counts_).bind fun t20 => (tailrec (fun (s9 : Int × List Int) => ((if (decide (s9.1 < (t20.length : Int))) = true then (idx s9.2 s9.1).bind fun t28 => (setAt s9.2 s9.1 (IntKind.i64.wrap (t28 + smooth_))).bind fun t32s => (some (.inl ((IntKind.i64.wrap (s9.1 + (1:Int))),t32s))) else (some (.inr s9.2))) : Option ((Int × List Int) ⊕ ((List Int))))) ((0:Int),t20)).bind fun (p21 : (List Int)) => (flearn_sum p21).bind fun t35 => (if (t35 == (0:Int)) = true then (some (([] : List Int),(5:Int))) else (flearn_lowest p21).bind fun t38 => (some (t38,(0:Int)))))
set_option maxRecDepth 100000 in
set_option maxHeartbeats 4000000 in
theorem learn_Weights_ok {counts_ : (List Int)} {smooth_ : Int} {r : (List Int) × Int} (h : flearn_Weights counts_ smooth_ = some r) : FnOk Tryz.prog 81 [tsl rI counts_,ti smooth_] [] (fun _ => []) (fun _ => ttup [tsl rI r.1,ti r.2]) := by
 unfold flearn_Weights at h
 refine FnOk.enter Tryz.func81 rfl Tryz.ntmps81 (leb rfl) (fun M0 M w0 a hpl hst => ?_)
 replace hst : St M w0 39 [(0,tsl rI counts_),(1,ti smooth_)] [] a w0 := hst
 refine sr mixed [] hst (fun _ => .o (op_assign (.nilsl (R := rI))) <| .o (op_assign .k) <| .n) fun n0 a w hst => ?_
 replace hst := hst.to [2,3] [_,_] [] rfl rfl
 refine wp_seq_k (fun K2 hK2 => ?_)
 obtain ⟨t9,ht9,h⟩ := bind_some h
 refine sr mixed [] hst (fun _ => .q 0 rfl <| .o (op_callF call119 (learn_within_ok ht9) (.cons (.of z0) <| .cons (.of .k) <| .nil)) <| .o (op_not z0) <| .q 0 rfl <| .g rfl rfl (.b 0 rfl) (fun _ => op_move z5) <| .g rfl rfl (.b 1 rfl) (fun hc => op_lss (.cond z0 hc) .k) <| .o (op_or z2 (fun hp => (.cond z0 (beqF hp)))) <| .q 0 rfl <| .g rfl rfl (.b 0 rfl) (fun _ => op_move z9) <| .g rfl rfl (.b 1 rfl) (fun hc => op_gtr (.cond z0 hc) .k) <| .o (op_or z2 (fun hp => (.cond z0 (beqF hp)))) <| .n) fun n1 a w hst => ?_
 replace hst := hst.to [10,11,12] [_,_,_] [] rfl rfl
 refine wt hst (fun b33 => ?_) (fun b33 => ?_)
 ·replace h := ite_t b33 h
  refine sr mixed [] hst (fun _ => .o (op_assign (.nilsl (R := rI))) <| .o (op_assign .k) <| .n) fun n2 a w hst => ?_
  replace hst := hst.to [0,1] [_,_] [] rfl rfl
  refine wp_ret ?_
  obtain rfl := sj h
  exact ret_st undef [] hpl hst rfl (.tmp z0 (.tmp z1 .nil)) rfl rfl rfl
 ·replace h := ite_f b33 h
  refine wp_skip ?_
  refine hK2 _ _ ?_
  try clear hK2 K2
  obtain ⟨t20,ht20,h⟩ := bind_some h
  refine sr mixed [v1 1 (fun v0 => own rI 3 t20 v0)] hst (fun _ => .q 1 rfl <| .m [] [0] rfl rfl rfl (op_callF call99 (slices_Clone_int_ok ht20) (.cons (.of z0) <| .nil)) <| .ud (f := fun v => tv v) 1 rfl [] rfl rfl (op_assign z0) <| .n) fun n3 a w hst => ?_
  replace hst := hst.to [1,2,5] [_,_,_] [_] rfl rfl
  refine wp_seq_k (fun K7 hK7 => ?_)
  refine sr mixed [] hst (fun _ => .q 1 rfl <| .u [0] rfl rfl (op_lenO ud22 z0) <| .o (op_move .k) <| .n) fun n4 a w hst => ?_
  replace hst := hst.to [0,1,2,3,4,5] [_,_,_,_,_,_] [_] rfl rfl
  obtain ⟨e10,he10,h⟩ := bind_some h
  have hJp21 : ∀ (p21 : List Int) a w,p21 = e10 → St M w0 39 [(6,tv (n3 1))] [own rI 3 p21 (n3 1)] a w → K7 a w := by
   intro p21 a w he hst
   subst he
   refine hK7 _ _ ?_
   try clear hK7 K7
   refine wp_seq_k (fun K22 hK22 => ?_)
   obtain ⟨t35,ht35,h⟩ := bind_some h
   refine sr mixed [] hst (fun _ => .q 0 rfl <| .u [0] rfl rfl (op_callFU [own rI 3 p21 (n3 1)] call59 (learn_sum_ok ht35) (.cons (.own z0 (.head _)) <| .nil) (fun _ => flat_tv) (fun _ => flatN0 (x := undef))) <| .o (op_eql z0 .k) <| .n) fun n9 a w hst => ?_
   replace hst := hst.to [0,2,3] [_,_,_] [_] rfl rfl
   refine wp_test 1 hst rfl (fun b26 => ?_) (fun b26 => ?_)
   ·replace h := ite_t b26 h
    refine sr mixed [] hst (fun _ => .o (op_assign (.nilsl (R := rI))) <| .o (op_assign .k) <| .n) fun n10 a w hst => ?_
    replace hst := hst.to [0,1,2,4] [_,_,_,_] [_] rfl rfl
    refine wp_ret ?_
    obtain rfl := sj h
    exact ret_st undef [] hpl hst rfl (.tmp z0 (.tmp z1 .nil)) rfl rfl rfl
   ·replace h := ite_f b26 h
    refine wp_skip ?_
    refine hK22 _ _ ?_
    try clear hK22 K22
    refine wp_seq_k (fun K25 hK25 => ?_)
    replace hst : St _ _ _ [_,_] [] _ _ := (hst.shareO 2 rfl).pick [0,2]
    obtain ⟨t38,ht38,h⟩ := bind_some h
    refine wr mixed [] hst (fun _ => .q 0 rfl <| .o (op_callF call60 (learn_lowest_ok ht38) (.cons (.of z0) <| .nil)) <| .o (op_assign z0) <| .o (op_assign .k) <| .n) fun n11 a w hst => ?_
    replace hst := hst.to [2,3] [_,_] [] rfl rfl
    refine hK25 _ _ ?_
    try clear hK25 K25
    refine wp_ret ?_
    obtain rfl := sj h
    exact ret_st undef [] hpl hst rfl (.tmp z0 (.tmp z1 .nil)) rfl rfl rfl
  refine wp_block ?_
  refine wp_loopK _ (fun (s9 : Int × List Int) a w => St M w0 39 [(22,ti (t20.length : Int)),(23,ti s9.1),(6,tv (n3 1)),(1,ti smooth_)] [own rI 3 s9.2 (n3 1)] a w) _ _ he10 (hst.pick [1,2,4,5]) ?_
  clear h
  intro s9 o a w K27 hI h ho hK27
  have hst := hI
  clear hI
  refine sr mixed [] hst (fun _ => .o (op_lss z1 z0) <| .n) fun n5 a w hst => ?_
  replace hst := hst.to [0,1,2,3,4] [_,_,_,_,_] [_] rfl rfl
  refine wp_seq_k (fun K29 hK29 => ?_)
  refine wt hst (fun b32 => ?_) (fun b32 => ?_)
  ·replace h := ite_t b32 h
   refine wp_skip ?_
   refine hK29 _ _ ?_
   try clear hK29 K29
   refine wp_seq_k (fun K30 hK30 => ?_)
   refine wp_block ?_
   refine sr mixed [] hst (fun _ => .q 2 rfl <| .o (op_assign z0) <| .n) fun n6 a w hst => ?_
   replace hst := hst.to [1,3,4,5,6] [_,_,_,_,_] [_] rfl rfl
   obtain ⟨t28,ht28,h⟩ := bind_some h
   obtain ⟨t32s,ht32s,h⟩ := bind_some h
   refine wr mixed [v0 (own rI 3 t32s (n3 1))] hst (fun _ => .q 3 rfl <| .q 1 rfl <| .u [0] rfl rfl (op_indexOi ud22 tok3 z1 z0 ht28) <| .u [0] rfl rfl (op_loadO tok3 z0 ht28) <| .q 8 rfl <| .o (op_add z1 z0) <| .u [0] rfl rfl (op_indexOs ud22 tok3 z5 z4 ht32s) <| .e [] [0] [1] rfl rfl rfl rfl (op_storeO tok3 z0 z1 ht32s) <| .n) fun n7 a w hst => ?_
   replace hst := hst.to [0,8,9,10,11] [_,_,_,_,_] [_] rfl rfl
   refine hK30 _ _ ?_
   try clear hK30 K30
   refine wr mixed [] hst (fun _ => .o (op_add z2 .k) <| .q 0 rfl <| .n) fun n8 a w hst => ?_
   replace hst := hst.to [1,2,3,4,5] [_,_,_,_,_] [_] rfl rfl
   exact hK27 _ _ _ (sj h).symm (hst.pick [2,0,3,4])
  ·replace h := ite_f b32 h
   refine wp_exit ?_
   exact hJp21 _ _ _ (ho _ (sj h).symm) (hst.pick [3])

/- diorama/learn.right -/
noncomputable def flearn_right (l_ : (List Int)) : Option (Bool) := (flearn_within l_ (1048576:Int)).bind fun t4 => (opt (t4 == true) (flearn_sum l_) default).bind fun t7 => (some (t4 && (decide (t7 > (0:Int)))))
set_option maxRecDepth 100000 in
set_option maxHeartbeats 4000000 in
theorem learn_right_ok {l_ : (List Int)} {r : Bool} (h : flearn_right l_ = some r) : FnOk Tryz.prog 151 [tsl rI l_] [] (fun _ => []) (fun _ => tb r) := by
 unfold flearn_right at h
 refine FnOk.enter Tryz.func151 rfl Tryz.ntmps151 (leb rfl) (fun M0 M w0 a hpl hst => ?_)
 replace hst : St M w0 10 [(0,tsl rI l_)] [] a w0 := hst
 refine sr mixed [] hst (fun _ => .o (op_assign .k) <| .n) fun n0 a w hst => ?_
 replace hst := hst.to [1] [_] [] rfl rfl
 obtain ⟨t4,ht4,h⟩ := bind_some h
 obtain ⟨t7,ht7,h⟩ := bind_some h
 refine sr mixed [] hst (fun _ => .q 0 rfl <| .o (op_callF call119 (learn_within_ok ht4) (.cons (.of z0) <| .cons (.of .k) <| .nil)) <| .q 0 rfl <| .g rfl rfl (.b 0 rfl) (fun _ => op_move z3) <| .g rfl rfl (.b 1 rfl) (fun hc => op_callF call59 (learn_sum_ok (opt_t ht7 hc)) (.cons (.of (.cond z0 hc)) <| .nil)) <| .g rfl rfl (.b 2 rfl) (fun hc => op_gtr (.cond z0 hc) .k) <| .o (op_and z3 (fun hp => (.cond z0 (beqT hp)))) <| .o (op_assign z0) <| .n) fun n1 a w hst => ?_
 replace hst := hst.to [7] [_] [] rfl rfl
 refine wp_ret ?_
 obtain rfl := sj h
 exact ret_st undef [] hpl hst rfl (.tmp z0 .nil) rfl rfl rfl

/- diorama/learn.both -/
noncomputable def flearn_both (a_ : (List Int)) (b_ : (List Int)) : Option (Int) := (flearn_right a_).bind fun t7 => (flearn_right b_).bind fun t9 => (if ((a_.length : Int) != (b_.length : Int)) = true then (some (1:Int)) else (if (!eqA2_Bool (A2_Bool.mk t7 t9) (A2_Bool.mk true true)) = true then (some (5:Int)) else (some (0:Int))))
set_option maxRecDepth 100000 in
set_option maxHeartbeats 4000000 in
theorem learn_both_ok {a_ : (List Int)} {b_ : (List Int)} {r : Int} (h : flearn_both a_ b_ = some r) : FnOk Tryz.prog 120 [tsl rI a_,tsl rI b_] [] (fun _ => []) (fun _ => ti r) := by
 unfold flearn_both at h
 refine FnOk.enter Tryz.func120 rfl Tryz.ntmps120 (leb rfl) (fun M0 M w0 a hpl hst => ?_)
 replace hst : St M w0 21 [(0,tsl rI a_),(1,tsl rI b_)] [] a w0 := hst
 refine sr mixed [] hst (fun _ => .o (op_assign .k) <| .n) fun n0 a w hst => ?_
 replace hst := hst.to [1,2] [_,_] [] rfl rfl
 refine wp_seq_k (fun K2 hK2 => ?_)
 obtain ⟨t7,ht7,h⟩ := bind_some h
 obtain ⟨t9,ht9,h⟩ := bind_some h
 refine sr mixed [v1 5 (fun v0 => box (rA2_Bool.cs (A2_Bool.mk false false)) v0),v1 5 (fun v0 => box (rA2_Bool.cs (A2_Bool.mk t7 t9)) v0)] hst (fun _ => .q 0 rfl <| .o (op_callF call151 (learn_right_ok ht7) (.cons (.of z0) <| .nil)) <| .q 3 rfl <| .o (op_callF call151 (learn_right_ok ht9) (.cons (.of z0) <| .nil)) <| .p (T := rA2_Bool.ty (A2_Bool.mk t7 t9)) rfl (op_buildArr (R := rBool) (us := [t7,t9]) Tryz.underlying180 tok4 zv180 rfl (.cons z2 <| .cons z0 <| .nil _)) <| .m [] [0] rfl rfl rfl (op_alloc (R := rA2_Bool) (a := (A2_Bool.mk false false)) tok180 zok180) <| .e [] [0] [1] rfl rfl rfl rfl (op_storeB (R := rA2_Bool) (a := (A2_Bool.mk t7 t9)) tok180 z0 z1 (leb rfl)) <| .n) fun n1 a w hst => ?_
 replace hst : St _ _ _ [_,_,_] [] _ _ := (((hst.pick [5,6,7]).shareB 0 rfl).add 0 rfl (fun _ _ _ h => h.2)).pick [0,3,4]
 refine wp_block ?_
 refine sr mixed [] hst (fun _ => .q 1 rfl <| .o (op_len ud22 z0) <| .q 4 rfl <| .o (op_len ud22 z0) <| .o (op_neq z2 z0) <| .o (op_assign z0) <| .n) fun n2 a w hst => ?_
 replace hst := hst.to [5,6] [_,_] [] rfl rfl
 refine wt hst (fun b11 => ?_) (fun b11 => ?_)
 ·replace h := ite_t b11 h
  refine sr mixed [] hst (fun _ => .o (op_assign .k) <| .n) fun n3 a w hst => ?_
  replace hst := hst.to [0] [_] [] rfl rfl
  refine wp_ret ?_
  obtain rfl := sj h
  exact ret_st undef [] hpl hst rfl (.tmp z0 .nil) rfl rfl rfl
 ·replace h := ite_f b11 h
  refine sr mixed [] hst (fun _ => .o (op_load tok180 z1) <| .p (T := rA2_Bool.ty (A2_Bool.mk true true)) rfl (op_buildArr (R := rBool) (us := [true,true]) Tryz.underlying180 tok4 zv180 rfl (.cons .k <| .cons .k <| .nil _)) <| .o (op_neq_t180 z1 z0) <| .o (op_assign z0) <| .n) fun n4 a w hst => ?_
  replace hst := hst.to [3] [_] [] rfl rfl
  refine wt hst (fun b10 => ?_) (fun b10 => ?_)
  ·replace h := ite_t b10 h
   refine sr mixed [] hst (fun _ => .o (op_assign .k) <| .n) fun n5 a w hst => ?_
   replace hst := hst.to [0] [_] [] rfl rfl
   refine wp_ret ?_
   obtain rfl := sj h
   exact ret_st undef [] hpl hst rfl (.tmp z0 .nil) rfl rfl rfl
  ·replace h := ite_f b10 h
   refine wp_skip ?_
   refine hK2 _ _ ?_
   try clear hK2 K2
   refine sr mixed [] hst (fun _ => .o (op_assign .k) <| .n) fun n6 a w hst => ?_
   replace hst := hst.to [0] [_] [] rfl rfl
   refine wp_ret ?_
   obtain rfl := sj h
   exact ret_st undef [] hpl hst rfl (.tmp z0 .nil) rfl rfl rfl

/- diorama/ratio.size -/
noncomputable def fratio_size (n_ : Int) : Option (Int) := (if (decide (n_ < (0:Int))) = true then (some (IntKind.u64.wrap (0 - (IntKind.u64.wrap n_)))) else (some (IntKind.u64.wrap n_)))
set_option maxRecDepth 100000 in
set_option maxHeartbeats 4000000 in
theorem ratio_size_ok {n_ : Int} {r : Int} (h : fratio_size n_ = some r) : FnOk Tryz.prog 153 [ti n_] [] (fun _ => []) (fun _ => tv (.int .u64 r)) := by
 unfold fratio_size at h
 refine FnOk.enter Tryz.func153 rfl Tryz.ntmps153 (leb rfl) (fun M0 M w0 a hpl hst => ?_)
 replace hst : St M w0 10 [(0,ti n_)] [] a w0 := hst
 refine sr mixed [] hst (fun _ => .o (op_assign .k) <| .n) fun n0 a w hst => ?_
 replace hst := hst.to [1] [_] [] rfl rfl
 refine wp_seq_k (fun K2 hK2 => ?_)
 refine sr mixed [] hst (fun _ => .q 0 rfl <| .o (op_lss z0 .k) <| .n) fun n1 a w hst => ?_
 replace hst := hst.to [1,2] [_,_] [] rfl rfl
 refine wt hst (fun b6 => ?_) (fun b6 => ?_)
 ·replace h := ite_t b6 h
  refine sr mixed [] hst (fun _ => .q 1 rfl <| .o (op_conv ud3 ud181 z0) <| .o (op_neg z0) <| .o (op_assign z0) <| .n) fun n2 a w hst => ?_
  replace hst := hst.to [3] [_] [] rfl rfl
  refine wp_ret ?_
  obtain rfl := sj h
  exact ret_st undef [] hpl hst rfl (.tmp z0 .nil) rfl rfl rfl
 ·replace h := ite_f b6 h
  refine wp_skip ?_
  refine hK2 _ _ ?_
  try clear hK2 K2
  refine sr mixed [] hst (fun _ => .q 1 rfl <| .o (op_conv ud3 ud181 z0) <| .o (op_assign z0) <| .n) fun n3 a w hst => ?_
  replace hst := hst.to [2] [_] [] rfl rfl
  refine wp_ret ?_
  obtain rfl := sj h
  exact ret_st undef [] hpl hst rfl (.tmp z0 .nil) rfl rfl rfl

end Go.Proofs.YthdfmpocknmleaaGreatDoor
