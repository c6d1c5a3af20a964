/- Go functions as Lean functions, and the proofs that they compute them, written by a program. No condition. -/
import Derived.Test.YtcdccjagknlmpaaGreatDoorGenD
namespace Go.Proofs.YtcdccjagknlmpaaGreatDoor
open Go.Sim

/- diorama/typing.Up -/
noncomputable def ftyping_UpS (self : Sapi_Schema → Int → Int → Option (Int)) (x_ : Sapi_Schema) (kind_ : Int) (field_ : Int) : Option (Int) := (ftyping_at x_ kind_ field_).bind fun t17 => (if (!t17.2) = true then (some (-1:Int)) else (if (((t17.1).Kind == (7:Int)) || ((t17.1).Kind == (8:Int))) = true then (idx (x_).Kinds kind_).bind fun t35 => (ftyping_Field t35 (t17.1).Up).bind fun t39 => (ftyping_at x_ kind_ t39).bind fun t44 => (if ((t44.2 && (decide (t39 < field_))) && ((t44.1).Kind == (1:Int))) = true then (self x_ kind_ t39).bind fun t61 => (some t61) else (some (-1:Int))) else (if ((t17.1).Kind != (1:Int)) = true then (some (-1:Int)) else (ftyping_Kind x_ (t17.1).Of).bind fun t69 => (if (decide (t69 < kind_)) = true then (some t69) else (some (-1:Int))))))
set_option maxRecDepth 100000 in
set_option maxHeartbeats 4000000 in
theorem typing_Up_okS {self : Sapi_Schema → Int → Int → Option (Int)} (hself : ∀ (x_ : Sapi_Schema) (kind_ : Int) (field_ : Int) (r : Int),self x_ kind_ field_ = some r → FnOk Tryz.prog 217 [rSapi_Schema.ty x_,ti kind_,ti field_] [] (fun _ => []) (fun _ => ti r)) {x_ : Sapi_Schema} {kind_ : Int} {field_ : Int} {r : Int} (h : ftyping_UpS self x_ kind_ field_ = some r) : FnOk Tryz.prog 217 [rSapi_Schema.ty x_,ti kind_,ti field_] [] (fun _ => []) (fun _ => ti r) := by
 unfold ftyping_UpS at h
 refine FnOk.enter Tryz.func217 rfl Tryz.ntmps217 (leb rfl) (fun M0 M w0 a hpl hst => ?_)
 replace hst : St M w0 74 [(0,rSapi_Schema.ty x_),(1,ti kind_),(2,ti field_)] [] a w0 := hst
 refine sr mixed [] hst (fun _ => .o (op_boxR (R := rSapi_Schema) (u := x_) z0) <| .o (op_assign .k) <| .n) fun n0 a w hst => ?_
 replace hst := hst.to [0,3,4] [_,_,_] [] rfl rfl
 obtain ⟨t17,ht17,h⟩ := bind_some h
 refine sr mixed [v1 7 (fun v0 => box (rSapi_Field.cs zz0) v0),v1 7 (fun v0 => box (rSapi_Field.cs t17.1) v0)] hst (fun _ => .o (op_load tok27 z0) <| .q 2 rfl <| .q 4 rfl <| .o (op_callF call110 (typing_at_ok ht17) (.cons (.of z2) <| .cons (.of z1) <| .cons (.of z0) <| .nil)) <| .q 0 rfl <| .o (op_extract z0 rfl) <| .o (op_extract z1 rfl) <| .m [] [0] rfl rfl rfl (op_alloc (R := rSapi_Field) (a := zz0) tok61 zok61) <| .e [] [0] [1] rfl rfl rfl rfl (op_storeB (R := rSapi_Field) (a := t17.1) tok61 z0 z2 (leb rfl)) <| .o (op_assign z1) <| .n) fun n1 a w hst => ?_
 replace hst : St _ _ _ [_,_,_,_,_] [] _ _ := (((hst.pick [7,8,9,10,11]).shareB 0 rfl).add 0 rfl (fun _ _ _ h => h.2)).pick [0,3,4,5,6]
 refine wp_seq_k (fun K4 hK4 => ?_)
 refine wp_block ?_
 refine sr mixed [] hst (fun _ => .q 1 rfl <| .o (op_not z0) <| .o (op_assign z0) <| .n) fun n2 a w hst => ?_
 replace hst := hst.to [2,3,5,6,7] [_,_,_,_,_] [] rfl rfl
 refine wt hst (fun b26 => ?_) (fun b26 => ?_)
 ·replace h := ite_t b26 h
  refine sr mixed [] hst (fun _ => .o (op_assign .k) <| .n) fun n3 a w hst => ?_
  replace hst := hst.to [0] [_] [] rfl rfl
  refine wp_ret ?_
  obtain rfl := sj h
  exact ret_st undef [] hpl hst rfl (.tmp z0 .nil) rfl rfl rfl
 ·replace h := ite_f b26 h
  refine sr mixed [] hst (fun _ => .o (op_field fld61_3 z1) <| .o (op_loadT (R := rI) (u := (t17.1).Kind) tok3 z0 rfl) <| .o (op_eql z0 .k) <| .q 0 rfl <| .g rfl rfl (.b 0 rfl) (fun _ => op_field fld61_3 z5) <| .g rfl rfl (.b 1 rfl) (fun hc => op_loadT (R := rI) (u := (t17.1).Kind) tok3 (.cond z0 hc) rfl) <| .g rfl rfl (.b 2 rfl) (fun hc => op_eql (.cond z0 hc) .k) <| .o (op_or z3 (fun hp => (.cond z0 (beqF hp)))) <| .o (op_assign z0) <| .n) fun n4 a w hst => ?_
  replace hst := hst.to [8,10,11,12,13] [_,_,_,_,_] [] rfl rfl
  refine wt hst (fun b25 => ?_) (fun b25 => ?_)
  ·replace h := ite_t b25 h
   obtain ⟨t35,ht35,h⟩ := bind_some h
   obtain ⟨t39,ht39,h⟩ := bind_some h
   refine sr mixed [] hst (fun _ => .o (op_field fld27_1 z2) <| .o (op_loadT (R := (rSl rSapi_Kind)) (u := (x_).Kinds) tok23 z0 rfl) <| .q 5 rfl <| .o (op_index ud23 tok55 z1 z0 ht35) <| .o (op_load tok55 z0) <| .o (op_field fld61_2 z6) <| .o (op_loadT (R := rS) (u := (t17.1).Up) tok9 z0 rfl) <| .o (op_callF call68 (typing_Field_ok ht39) (.cons (.of z2) <| .cons (.of z0) <| .nil)) <| .o (op_assign z0) <| .n) fun n5 a w hst => ?_
   replace hst := hst.to [8,11,12,13] [_,_,_,_] [] rfl rfl
   refine wp_seq_k (fun K9 hK9 => ?_)
   obtain ⟨t44,ht44,h⟩ := bind_some h
   refine sr mixed [v1 7 (fun v0 => box (rSapi_Field.cs zz0) v0),v1 7 (fun v0 => box (rSapi_Field.cs t44.1) v0)] hst (fun _ => .o (op_load tok27 z1) <| .q 3 rfl <| .q 2 rfl <| .o (op_callF call110 (typing_at_ok ht44) (.cons (.of z2) <| .cons (.of z1) <| .cons (.of z0) <| .nil)) <| .q 0 rfl <| .o (op_extract z0 rfl) <| .o (op_extract z1 rfl) <| .m [] [0] rfl rfl rfl (op_alloc (R := rSapi_Field) (a := zz0) tok61 zok61) <| .e [] [0] [1] rfl rfl rfl rfl (op_storeB (R := rSapi_Field) (a := t44.1) tok61 z0 z2 (leb rfl)) <| .o (op_assign z1) <| .n) fun n6 a w hst => ?_
   replace hst : St _ _ _ [_,_,_,_,_,_] [] _ _ := (((hst.pick [7,8,9,10,11,12]).shareB 0 rfl).add 0 rfl (fun _ _ _ h => h.2)).pick [0,3,4,5,6,7]
   refine sr mixed [] hst (fun _ => .q 1 rfl <| .q 0 rfl <| .g rfl rfl (.b 0 rfl) (fun _ => op_move z4) <| .g rfl rfl (.b 1 rfl) (fun _ => op_move z8) <| .g rfl rfl (.b 2 rfl) (fun hc => op_lss (.cond z1 hc) (.cond z0 hc)) <| .o (op_and z3 (fun hp => (.cond z0 (beqT hp)))) <| .q 0 rfl <| .g rfl rfl (.b 0 rfl) (fun _ => op_field fld61_3 z7) <| .g rfl rfl (.b 1 rfl) (fun hc => op_loadT (R := rI) (u := (t44.1).Kind) tok3 (.cond z0 hc) rfl) <| .g rfl rfl (.b 2 rfl) (fun hc => op_eql (.cond z0 hc) .k) <| .o (op_and z3 (fun hp => (.cond z0 (beqT hp)))) <| .n) fun n7 a w hst => ?_
   replace hst := hst.to [10,13,14,15] [_,_,_,_] [] rfl rfl
   refine wt hst (fun b15 => ?_) (fun b15 => ?_)
   ·replace h := ite_t b15 h
    obtain ⟨t61,ht61,h⟩ := bind_some h
    refine sr mixed [] hst (fun _ => .o (op_load tok27 z2) <| .q 4 rfl <| .q 3 rfl <| .o (op_callF call217 (hself _ _ _ _ ht61) (.cons (.of z2) <| .cons (.of z1) <| .cons (.of z0) <| .nil)) <| .o (op_assign z0) <| .n) fun n8 a w hst => ?_
    replace hst := hst.to [4] [_] [] rfl rfl
    refine wp_ret ?_
    obtain rfl := sj h
    exact ret_st undef [] hpl hst rfl (.tmp z0 .nil) rfl rfl rfl
   ·replace h := ite_f b15 h
    refine wp_skip ?_
    refine hK9 _ _ ?_
    try clear hK9 K9
    refine sr mixed [] hst (fun _ => .o (op_assign .k) <| .n) fun n9 a w hst => ?_
    replace hst := hst.to [0] [_] [] rfl rfl
    refine wp_ret ?_
    obtain rfl := sj h
    exact ret_st undef [] hpl hst rfl (.tmp z0 .nil) rfl rfl rfl
  ·replace h := ite_f b25 h
   refine sr mixed [] hst (fun _ => .o (op_field fld61_3 z1) <| .o (op_loadT (R := rI) (u := (t17.1).Kind) tok3 z0 rfl) <| .o (op_neq z0 .k) <| .o (op_assign z0) <| .n) fun n10 a w hst => ?_
   replace hst := hst.to [3,5,6,7] [_,_,_,_] [] rfl rfl
   refine wt hst (fun b24 => ?_) (fun b24 => ?_)
   ·replace h := ite_t b24 h
    refine sr mixed [] hst (fun _ => .o (op_assign .k) <| .n) fun n11 a w hst => ?_
    replace hst := hst.to [0] [_] [] rfl rfl
    refine wp_ret ?_
    obtain rfl := sj h
    exact ret_st undef [] hpl hst rfl (.tmp z0 .nil) rfl rfl rfl
   ·replace h := ite_f b24 h
    refine wp_skip ?_
    refine hK4 _ _ ?_
    try clear hK4 K4
    refine wp_seq_k (fun K18 hK18 => ?_)
    obtain ⟨t69,ht69,h⟩ := bind_some h
    refine sr mixed [] hst (fun _ => .o (op_load tok27 z2) <| .o (op_field fld61_1 z2) <| .o (op_loadT (R := rS) (u := (t17.1).Of) tok9 z0 rfl) <| .o (op_callF call38 (typing_Kind_ok ht69) (.cons (.of z2) <| .cons (.of z0) <| .nil)) <| .o (op_assign z0) <| .n) fun n12 a w hst => ?_
    replace hst := hst.to [4,8] [_,_] [] rfl rfl
    refine sr mixed [] hst (fun _ => .q 0 rfl <| .q 2 rfl <| .o (op_lss z1 z0) <| .n) fun n13 a w hst => ?_
    replace hst := hst.to [2,3] [_,_] [] rfl rfl
    refine wt hst (fun b23 => ?_) (fun b23 => ?_)
    ·replace h := ite_t b23 h
     refine sr mixed [] hst (fun _ => .q 1 rfl <| .o (op_assign z0) <| .n) fun n14 a w hst => ?_
     replace hst := hst.to [1] [_] [] rfl rfl
     refine wp_ret ?_
     obtain rfl := sj h
     exact ret_st undef [] hpl hst rfl (.tmp z0 .nil) rfl rfl rfl
    ·replace h := ite_f b23 h
     refine wp_skip ?_
     refine hK18 _ _ ?_
     try clear hK18 K18
     refine sr mixed [] hst (fun _ => .o (op_assign .k) <| .n) fun n15 a w hst => ?_
     replace hst := hst.to [0] [_] [] rfl rfl
     refine wp_ret ?_
     obtain rfl := sj h
     exact ret_st undef [] hpl hst rfl (.tmp z0 .nil) rfl rfl rfl
noncomputable def gtyping_UpN : Nat → Sapi_Schema → Int → Int → Option (Int)
 | 0 => fun _ _ _ => none
 | n + 1 => ftyping_UpS (gtyping_UpN n)
theorem gtyping_UpN_ok : ∀ (n : Nat) (x_ : Sapi_Schema) (kind_ : Int) (field_ : Int) (r : Int),gtyping_UpN n x_ kind_ field_ = some r → FnOk Tryz.prog 217 [rSapi_Schema.ty x_,ti kind_,ti field_] [] (fun _ => []) (fun _ => ti r)
 | 0,_,_,_,r,h => by cases h
 | n + 1,x_,kind_,field_,r,h => typing_Up_okS (fun x_ kind_ field_ r h => gtyping_UpN_ok n x_ kind_ field_ r h) h
noncomputable def ftyping_Up (x_ : Sapi_Schema) (kind_ : Int) (field_ : Int) : Option (Int) := gtyping_UpN (field_.natAbs + 2) x_ kind_ field_
theorem typing_Up_ok {x_ : Sapi_Schema} {kind_ : Int} {field_ : Int} {r : Int} (h : ftyping_Up x_ kind_ field_ = some r) : FnOk Tryz.prog 217 [rSapi_Schema.ty x_,ti kind_,ti field_] [] (fun _ => []) (fun _ => ti r) := gtyping_UpN_ok _ _ _ _ _ h

/- (diorama/typing.spot).lost -/
noncomputable def ftyping_spot_lost (s_ : Styping_spot) : Option (Bool) := (ftyping_Up (s_).x (s_).kind (s_).field).bind fun t9 => (some (decide (t9 < (0:Int))))
set_option maxRecDepth 100000 in
set_option maxHeartbeats 4000000 in
theorem typing_spot_lost_ok {s_ : Styping_spot} {r : Bool} (h : ftyping_spot_lost s_ = some r) : FnOk Tryz.prog 204 [rStyping_spot.ty s_] [] (fun _ => []) (fun _ => tb r) := by
 unfold ftyping_spot_lost at h
 refine FnOk.enter Tryz.func204 rfl Tryz.ntmps204 (leb rfl) (fun M0 M w0 a hpl hst => ?_)
 replace hst : St M w0 11 [(0,rStyping_spot.ty s_)] [] a w0 := hst
 refine sr mixed [] hst (fun _ => .o (op_boxR (R := rStyping_spot) (u := s_) z0) <| .o (op_assign .k) <| .n) fun n0 a w hst => ?_
 replace hst := hst.to [0] [_] [] rfl rfl
 obtain ⟨t9,ht9,h⟩ := bind_some h
 refine sr mixed [] hst (fun _ => .o (op_field fld133_0 z0) <| .o (op_loadT (R := rSapi_Schema) (u := (s_).x) tok27 z0 rfl) <| .o (op_field fld133_1 z2) <| .o (op_loadT (R := rI) (u := (s_).kind) tok3 z0 rfl) <| .o (op_field fld133_2 z4) <| .o (op_loadT (R := rI) (u := (s_).field) tok3 z0 rfl) <| .o (op_callF call217 (typing_Up_ok ht9) (.cons (.of z4) <| .cons (.of z2) <| .cons (.of z0) <| .nil)) <| .o (op_lss z0 .k) <| .o (op_assign z0) <| .n) fun n1 a w hst => ?_
 replace hst := hst.to [8] [_] [] rfl rfl
 refine wp_ret ?_
 obtain rfl := sj h
 exact ret_st undef [] hpl hst rfl (.tmp z0 .nil) rfl rfl rfl

/- diorama/typing.checks$2 -/
noncomputable def ftyping_checksq2 (s_ : Styping_spot) : Option (Int) := (ftyping_spot_lost s_).bind fun t4 => (ftyping_first [(Styping_fault.mk t4 (12:Int))]).bind fun t7 => (some t7)
set_option maxRecDepth 100000 in
set_option maxHeartbeats 4000000 in
theorem typing_checksq2_ok {s_ : Styping_spot} {r : Int} (h : ftyping_checksq2 s_ = some r) : FnOk Tryz.prog 208 [rStyping_spot.ty s_] [] (fun _ => []) (fun _ => ti r) := by
 unfold ftyping_checksq2 at h
 refine FnOk.enter Tryz.func208 rfl Tryz.ntmps208 (leb rfl) (fun M0 M w0 a hpl hst => ?_)
 replace hst : St M w0 8 [(0,rStyping_spot.ty s_)] [] a w0 := hst
 refine sr mixed [] hst (fun _ => .o (op_boxR (R := rStyping_spot) (u := s_) z0) <| .o (op_assign .k) <| .n) fun n0 a w hst => ?_
 replace hst := hst.to [0] [_] [] rfl rfl
 obtain ⟨t4,ht4,h⟩ := bind_some h
 obtain ⟨t7,ht7,h⟩ := bind_some h
 refine sr mixed [] hst (fun _ => .o (op_load tok133 z0) <| .o (op_callF call204 (typing_spot_lost_ok ht4) (.cons (.of z0) <| .nil)) <| .p (T := rStyping_fault.ty (Styping_fault.mk t4 (12:Int))) rfl (op_build ud125 pl125 zv125 zc125 (.cons (R := rBool) (u := t4) rfl z0 (leb rfl) <| .cons (R := rI) (u := (12:Int)) rfl .k (leb rfl) <| .nil _)) <| .o (op_buildSl (R := rStyping_fault) (us := [(Styping_fault.mk t4 (12:Int))]) ud166 tok125 (.cons z0 <| .nil _) rfl (leb rfl)) <| .o (op_callF call66 (typing_first_ok ht7) (.cons (.of z0) <| .nil)) <| .o (op_assign z0) <| .n) fun n1 a w hst => ?_
 replace hst := hst.to [5] [_] [] rfl rfl
 refine wp_ret ?_
 obtain rfl := sj h
 exact ret_st undef [] hpl hst rfl (.tmp z0 .nil) rfl rfl rfl

/- diorama/typing.checks$3 -/
noncomputable def ftyping_checksq3 (s_ : Styping_spot) : Option (Int) := (idx ((s_).x).Kinds (s_).kind).bind fun t11 => (ftyping_Field t11 ((s_).f).Of).bind fun t16 => (ftyping_at (s_).x (s_).kind t16).bind fun t23 => (ftyping_first [(Styping_fault.mk ((((s_).f).Of != ([] : Str)) && (((decide (t16 < (0:Int))) || (decide (t16 ≥ (s_).field))) || ((t23.1).Kind != (4:Int)))) (12:Int))]).bind fun t47 => (some t47)
set_option maxRecDepth 100000 in
set_option maxHeartbeats 4000000 in
theorem typing_checksq3_ok {s_ : Styping_spot} {r : Int} (h : ftyping_checksq3 s_ = some r) : FnOk Tryz.prog 209 [rStyping_spot.ty s_] [] (fun _ => []) (fun _ => ti r) := by
 unfold ftyping_checksq3 at h
 refine FnOk.enter Tryz.func209 rfl Tryz.ntmps209 (leb rfl) (fun M0 M w0 a hpl hst => ?_)
 replace hst : St M w0 48 [(0,rStyping_spot.ty s_)] [] a w0 := hst
 refine sr mixed [] hst (fun _ => .o (op_boxR (R := rStyping_spot) (u := s_) z0) <| .o (op_assign .k) <| .n) fun n0 a w hst => ?_
 replace hst := hst.to [0] [_] [] rfl rfl
 obtain ⟨t11,ht11,h⟩ := bind_some h
 obtain ⟨t16,ht16,h⟩ := bind_some h
 refine sr mixed [] hst (fun _ => .o (op_field fld133_0 z0) <| .o (op_field fld27_1 z0) <| .o (op_loadT (R := (rSl rSapi_Kind)) (u := ((s_).x).Kinds) tok23 z0 rfl) <| .o (op_field fld133_1 z3) <| .o (op_loadT (R := rI) (u := (s_).kind) tok3 z0 rfl) <| .o (op_index ud23 tok55 z2 z0 ht11) <| .o (op_load tok55 z0) <| .o (op_field fld133_3 z7) <| .o (op_field fld61_1 z0) <| .o (op_loadT (R := rS) (u := ((s_).f).Of) tok9 z0 rfl) <| .o (op_callF call68 (typing_Field_ok ht16) (.cons (.of z3) <| .cons (.of z0) <| .nil)) <| .o (op_assign z0) <| .n) fun n1 a w hst => ?_
 replace hst := hst.to [11,12] [_,_] [] rfl rfl
 obtain ⟨t23,ht23,h⟩ := bind_some h
 refine sr mixed [v1 9 (fun v0 => box (rSapi_Field.cs zz0) v0),v1 9 (fun v0 => box (rSapi_Field.cs t23.1) v0)] hst (fun _ => .o (op_field fld133_0 z1) <| .o (op_loadT (R := rSapi_Schema) (u := (s_).x) tok27 z0 rfl) <| .o (op_field fld133_1 z3) <| .o (op_loadT (R := rI) (u := (s_).kind) tok3 z0 rfl) <| .q 4 rfl <| .o (op_callF call110 (typing_at_ok ht23) (.cons (.of z3) <| .cons (.of z1) <| .cons (.of z0) <| .nil)) <| .q 0 rfl <| .o (op_extract z0 rfl) <| .o (op_extract z1 rfl) <| .m [] [0] rfl rfl rfl (op_alloc (R := rSapi_Field) (a := zz0) tok61 zok61) <| .e [] [0] [1] rfl rfl rfl rfl (op_storeB (R := rSapi_Field) (a := t23.1) tok61 z0 z2 (leb rfl)) <| .o (op_assign z1) <| .n) fun n2 a w hst => ?_
 replace hst : St _ _ _ [_,_,_] [] _ _ := (((hst.pick [9,11,12]).shareB 0 rfl).add 0 rfl (fun _ _ _ h => h.2)).pick [0,3,4]
 obtain ⟨t47,ht47,h⟩ := bind_some h
 refine sr mixed [] hst (fun _ => .o (op_field fld133_3 z2) <| .o (op_field fld61_1 z0) <| .o (op_loadT (R := rS) (u := ((s_).f).Of) tok9 z0 rfl) <| .o (op_neqS z0 .k) <| .q 0 rfl <| .g rfl rfl (.b 0 rfl) (fun _ => op_move z6) <| .g rfl rfl (.b 1 rfl) (fun hc => op_lss (.cond z0 hc) .k) <| .g rfl rfl (.b 2 rfl) (fun hc => op_move (.cond z0 hc)) <| .g rfl rfl (.c 0 rfl) (fun _ => op_move z9) <| .g rfl rfl (.c 1 rfl) (fun _ => op_field fld133_2 z11) <| .g rfl rfl (.c 2 rfl) (fun hc => op_loadT (R := rI) (u := (s_).field) tok3 (.cond z0 hc) rfl) <| .g rfl rfl (.c 3 rfl) (fun hc => op_geq (.cond z2 hc) (.cond z0 hc)) <| .g rfl rfl (.b 7 rfl) (fun hc => op_or (.cond z4 hc) (fun hp => (.cond z0 (band_mk hc (beqF hp))))) <| .g rfl rfl (.b 8 rfl) (fun hc => op_move (.cond z0 hc)) <| .g rfl rfl (.c 0 rfl) (fun _ => op_field fld61_3 z14) <| .g rfl rfl (.c 1 rfl) (fun hc => op_loadT (R := rI) (u := (t23.1).Kind) tok3 (.cond z0 hc) rfl) <| .g rfl rfl (.c 2 rfl) (fun hc => op_neq (.cond z0 hc) .k) <| .g rfl rfl (.b 12 rfl) (fun hc => op_or (.cond z3 hc) (fun hp => (.cond z0 (band_mk hc (beqF hp))))) <| .o (op_and z13 (fun hp => (.cond z0 (beqT hp)))) <| .p (T := rStyping_fault.ty (Styping_fault.mk ((((s_).f).Of != ([] : Str)) && (((decide (t16 < (0:Int))) || (decide (t16 ≥ (s_).field))) || ((t23.1).Kind != (4:Int)))) (12:Int))) rfl (op_build ud125 pl125 zv125 zc125 (.cons (R := rBool) (u := ((((s_).f).Of != ([] : Str)) && (((decide (t16 < (0:Int))) || (decide (t16 ≥ (s_).field))) || ((t23.1).Kind != (4:Int))))) rfl z0 (leb rfl) <| .cons (R := rI) (u := (12:Int)) rfl .k (leb rfl) <| .nil _)) <| .o (op_buildSl (R := rStyping_fault) (us := [(Styping_fault.mk ((((s_).f).Of != ([] : Str)) && (((decide (t16 < (0:Int))) || (decide (t16 ≥ (s_).field))) || ((t23.1).Kind != (4:Int)))) (12:Int))]) ud166 tok125 (.cons z0 <| .nil _) rfl (leb rfl)) <| .o (op_callF call66 (typing_first_ok ht47) (.cons (.of z0) <| .nil)) <| .o (op_assign z0) <| .n) fun n3 a w hst => ?_
 replace hst := hst.to [22] [_] [] rfl rfl
 refine wp_ret ?_
 obtain rfl := sj h
 exact ret_st undef [] hpl hst rfl (.tmp z0 .nil) rfl rfl rfl

/- diorama/typing.checks$4$1 -/
noncomputable def ftyping_checksq4q1 (l_ : Sapi_Life) (c0_ : Styping_spot) : Option (Bool) := (some ((l_).Name == ((c0_).f).Of))
set_option maxRecDepth 100000 in
set_option maxHeartbeats 4000000 in
theorem typing_checksq4q1_ok {l_ : Sapi_Life} {c0_ : Styping_spot} {r : Bool} (h : ftyping_checksq4q1 l_ c0_ = some r) : FnOk Tryz.prog 211 [rSapi_Life.ty l_,tptr (rStyping_spot.cs c0_)] [] (fun _ => []) (fun _ => tb r) := by
 unfold ftyping_checksq4q1 at h
 refine FnOk.enter Tryz.func211 rfl Tryz.ntmps211 (leb rfl) (fun M0 M w0 a hpl hst => ?_)
 replace hst : St M w0 10 [(0,rSapi_Life.ty l_),(1,tptr (rStyping_spot.cs c0_))] [] a w0 := hst
 refine sr mixed [] hst (fun _ => .o (op_boxR (R := rSapi_Life) (u := l_) z0) <| .o (op_assign .k) <| .n) fun n0 a w hst => ?_
 replace hst := hst.to [0,3] [_,_] [] rfl rfl
 refine sr mixed [] hst (fun _ => .o (op_field fld81_0 z0) <| .o (op_loadT (R := rS) (u := (l_).Name) tok9 z0 rfl) <| .o (op_field fld133_3 z3) <| .o (op_field fld61_1 z0) <| .o (op_loadT (R := rS) (u := ((c0_).f).Of) tok9 z0 rfl) <| .o (op_eqlS z3 z0) <| .o (op_assign z0) <| .n) fun n1 a w hst => ?_
 replace hst := hst.to [6] [_] [] rfl rfl
 refine wp_ret ?_
 obtain rfl := sj h
 exact ret_st undef [] hpl hst rfl (.tmp z0 .nil) rfl rfl rfl

/- diorama/typing.checks$4 -/
noncomputable def ftyping_checksq4 (s_ : Styping_spot) : Option (Int) := (fslices_ContainsFunc_Life ((s_).x).Lives (fun x0 => ftyping_checksq4q1 x0 s_)).bind fun t8 => (ftyping_first [(Styping_fault.mk (!t8) (12:Int))]).bind fun t13 => (some t13)
set_option maxRecDepth 100000 in
set_option maxHeartbeats 4000000 in
theorem typing_checksq4_ok {s_ : Styping_spot} {r : Int} (h : ftyping_checksq4 s_ = some r) : FnOk Tryz.prog 210 [rStyping_spot.ty s_] [] (fun _ => []) (fun _ => ti r) := by
 unfold ftyping_checksq4 at h
 refine FnOk.enter Tryz.func210 rfl Tryz.ntmps210 (leb rfl) (fun M0 M w0 a hpl hst => ?_)
 replace hst : St M w0 14 [(0,rStyping_spot.ty s_)] [] a w0 := hst
 refine sr mixed [] hst (fun _ => .o (op_boxR (R := rStyping_spot) (u := s_) z0) <| .o (op_assign .k) <| .n) fun n0 a w hst => ?_
 replace hst := hst.to [0] [_] [] rfl rfl
 obtain ⟨t8,ht8,h⟩ := bind_some h
 refine sr mixed [] hst (fun _ => .o (op_field fld133_0 z0) <| .o (op_field fld27_2 z0) <| .o (op_loadT (R := (rSl rSapi_Life)) (u := ((s_).x).Lives) tok24 z0 rfl) <| .o (op_clo (.cons z3 <| .nil)) <| .o (op_callF call64 (slices_ContainsFunc_Life_ok ht8) (.cons (.of z1) <| .cons (.of (Fct.weak z0 (tfn_of call211 (fun _ _ hq => typing_checksq4q1_ok hq)))) <| .nil)) <| .o (op_assign z0) <| .n) fun n1 a w hst => ?_
 replace hst := hst.to [5] [_] [] rfl rfl
 obtain ⟨t13,ht13,h⟩ := bind_some h
 refine sr mixed [] hst (fun _ => .q 0 rfl <| .o (op_not z0) <| .p (T := rStyping_fault.ty (Styping_fault.mk (!t8) (12:Int))) rfl (op_build ud125 pl125 zv125 zc125 (.cons (R := rBool) (u := (!t8)) rfl z0 (leb rfl) <| .cons (R := rI) (u := (12:Int)) rfl .k (leb rfl) <| .nil _)) <| .o (op_buildSl (R := rStyping_fault) (us := [(Styping_fault.mk (!t8) (12:Int))]) ud166 tok125 (.cons z0 <| .nil _) rfl (leb rfl)) <| .o (op_callF call66 (typing_first_ok ht13) (.cons (.of z0) <| .nil)) <| .o (op_assign z0) <| .n) fun n2 a w hst => ?_
 replace hst := hst.to [5] [_] [] rfl rfl
 refine wp_ret ?_
 obtain rfl := sj h
 exact ret_st undef [] hpl hst rfl (.tmp z0 .nil) rfl rfl rfl

/- diorama/typing.shares -/
noncomputable def ftyping_shares (x_ : Sapi_Schema) (kind_ : Int) (f_ : Sapi_Field) : Option (Int × (List Int)) := (ftyping_Kind x_ (f_).Of).bind fun t15 => (if (((f_).Kind != (6:Int)) || (decide (t15 ≤ kind_))) = true then (some ((-1:Int),([] : List Int))) else (idx (x_).Kinds t15).bind fun t27 => (tailrec (fun (s10 : Int × List Int) => ((if (decide (s10.1 < ((t27).Fields.length : Int))) = true then (idx (t27).Fields s10.1).bind fun t34 => (opt ((((t34).Kind == (7:Int)) && ((t34).Of == (f_).Name)) == true) (ftyping_Up x_ t15 s10.1) default).bind fun t50 => ((if ((((t34).Kind == (7:Int)) && ((t34).Of == (f_).Name)) && (t50 == kind_)) = true then (rm (s10.2.length + [s10.1].length)).bind fun _ => (some (s10.2 ++ [s10.1])) else (some s10.2))).bind fun (p45 : List Int) => (some (.inl ((IntKind.i64.wrap (s10.1 + (1:Int))),p45))) else (some (.inr s10.2))) : Option ((Int × List Int) ⊕ ((List Int))))) ((0:Int),([] : List Int))).bind fun (p35 : (List Int)) => (some (t15,p35)))
set_option maxRecDepth 100000 in
set_option maxHeartbeats 4000000 in
theorem typing_shares_ok {x_ : Sapi_Schema} {kind_ : Int} {f_ : Sapi_Field} {r : Int × (List Int)} (h : ftyping_shares x_ kind_ f_ = some r) : FnOk Tryz.prog 213 [rSapi_Schema.ty x_,ti kind_,rSapi_Field.ty f_] [] (fun _ => []) (fun _ => ttup [ti r.1,tsl rI r.2]) := by
 unfold ftyping_shares at h
 refine FnOk.enter Tryz.func213 rfl Tryz.ntmps213 (leb rfl) (fun M0 M w0 a hpl hst => ?_)
 replace hst : St M w0 61 [(0,rSapi_Schema.ty x_),(1,ti kind_),(2,rSapi_Field.ty f_)] [] a w0 := hst
 refine sr mixed [] hst (fun _ => .o (op_boxR (R := rSapi_Schema) (u := x_) z0) <| .o (op_boxR (R := rSapi_Field) (u := f_) z3) <| .o (op_assign .k) <| .o (op_assign (.nilsl (R := rI))) <| .n) fun n0 a w hst => ?_
 replace hst := hst.to [0,1,5] [_,_,_] [] rfl rfl
 obtain ⟨t15,ht15,h⟩ := bind_some h
 refine sr mixed [] hst (fun _ => .o (op_load tok27 z0) <| .o (op_field fld61_1 z2) <| .o (op_loadT (R := rS) (u := (f_).Of) tok9 z0 rfl) <| .o (op_callF call38 (typing_Kind_ok ht15) (.cons (.of z2) <| .cons (.of z0) <| .nil)) <| .o (op_assign z0) <| .n) fun n1 a w hst => ?_
 replace hst := hst.to [4,5,6,7] [_,_,_,_] [] rfl rfl
 refine wp_seq_k (fun K3 hK3 => ?_)
 refine sr mixed [] hst (fun _ => .o (op_field fld61_3 z2) <| .o (op_loadT (R := rI) (u := (f_).Kind) tok3 z0 rfl) <| .o (op_neq z0 .k) <| .q 0 rfl <| .g rfl rfl (.b 0 rfl) (fun _ => op_move z4) <| .g rfl rfl (.b 1 rfl) (fun _ => op_move z8) <| .g rfl rfl (.b 2 rfl) (fun hc => op_leq (.cond z1 hc) (.cond z0 hc)) <| .o (op_or z3 (fun hp => (.cond z0 (beqF hp)))) <| .n) fun n2 a w hst => ?_
 replace hst := hst.to [7,8,9,10,11] [_,_,_,_,_] [] rfl rfl
 refine wt hst (fun b50 => ?_) (fun b50 => ?_)
 ·replace h := ite_t b50 h
  refine sr mixed [] hst (fun _ => .o (op_assign .k) <| .o (op_assign (.nilsl (R := rI))) <| .n) fun n3 a w hst => ?_
  replace hst := hst.to [0,1] [_,_] [] rfl rfl
  refine wp_ret ?_
  obtain rfl := sj h
  exact ret_st undef [] hpl hst rfl (.tmp z0 (.tmp z1 .nil)) rfl rfl rfl
 ·replace h := ite_f b50 h
  refine wp_skip ?_
  refine hK3 _ _ ?_
  try clear hK3 K3
  refine sr mixed [] hst (fun _ => .o (op_assign .k) <| .n) fun n4 a w hst => ?_
  replace hst : St _ _ _ [_,_,_,_,_] [_] _ _ := (hst.pick [0,2,3,4,5]).nil (rI) 3
  refine wp_seq_k (fun K8 hK8 => ?_)
  obtain ⟨t27,ht27,h⟩ := bind_some h
  refine sr mixed [] hst (fun _ => .o (op_field fld27_1 z2) <| .o (op_loadT (R := (rSl rSapi_Kind)) (u := (x_).Kinds) tok23 z0 rfl) <| .q 3 rfl <| .o (op_index ud23 tok55 z1 z0 ht27) <| .o (op_field fld55_3 z0) <| .o (op_loadT (R := (rSl rSapi_Field)) (u := (t27).Fields) tok53 z0 rfl) <| .o (op_len ud53 z0) <| .o (op_move .k) <| .n) fun n5 a w hst => ?_
  replace hst := hst.to [5,6,7,8,9,10,11,12] [_,_,_,_,_,_,_,_] [_] rfl rfl
  obtain ⟨e11,he11,h⟩ := bind_some h
  have hJp35 : ∀ (p35 : List Int) (v36 : Value) a w,p35 = e11 → St M w0 61 [(9,tv v36),(8,ti t15)] [own rI 3 p35 v36] a w → K8 a w := by
   intro p35 v36 a w he hst
   subst he
   refine hK8 _ _ ?_
   try clear hK8 K8
   refine sr mixed [] hst (fun _ => .q 1 rfl <| .q 1 rfl <| .o (op_assign z1) <| .o (op_assign z1) <| .n) fun n11 a w hst => ?_
   replace hst := hst.to [1,2,3,4] [_,_,_,_] [_] rfl rfl
   refine wp_ret ?_
   replace hst : St _ _ _ [_,_] [] _ _ := (hst.shareO 2 rfl).pick [0,2]
   obtain rfl := sj h
   exact ret_st undef [] hpl hst rfl (.tmp z1 (.tmp z0 .nil)) rfl rfl rfl
  refine wp_block ?_
  refine wp_loopK _ (fun (s10 : Int × List Int) a w => ∃ v23 : Value,St M w0 61 [(29,tsl rSapi_Field (t27).Fields),(30,ti ((t27).Fields.length : Int)),(31,ti s10.1),(9,tv v23),(8,ti t15),(3,tptr (rSapi_Schema.cs x_)),(5,tptr (rSapi_Field.cs f_)),(1,ti kind_)] [own rI 3 s10.2 v23] a w) _ _ he11 ⟨(.slice none 0 0),hst.pick [0,1,2,3,4,5,6,7]⟩ ?_
  clear h
  intro s10 o a w K38 hI h ho hK38
  obtain ⟨v23,hst⟩ := hI
  refine sr mixed [] hst (fun _ => .o (op_lss z2 z1) <| .n) fun n6 a w hst => ?_
  replace hst := hst.to [0,1,2,3,4,5,6,7,8] [_,_,_,_,_,_,_,_,_] [_] rfl rfl
  refine wp_seq_k (fun K40 hK40 => ?_)
  refine wt hst (fun b49 => ?_) (fun b49 => ?_)
  ·replace h := ite_t b49 h
   refine wp_skip ?_
   refine hK40 _ _ ?_
   try clear hK40 K40
   refine wp_seq_k (fun K41 hK41 => ?_)
   refine wp_block ?_
   obtain ⟨t34,ht34,h⟩ := bind_some h
   refine sr mixed [v1 3 (fun v0 => box (rSapi_Field.cs zz0) v0),v1 3 (fun v0 => box (rSapi_Field.cs t34) v0)] hst (fun _ => .q 3 rfl <| .o (op_index ud53 tok61 z2 z4 ht34) <| .o (op_load tok61 z0) <| .m [] [1] rfl rfl rfl (op_alloc (R := rSapi_Field) (a := zz0) tok61 zok61) <| .o (op_assign z3) <| .e [] [1] [2] rfl rfl rfl rfl (op_storeB (R := rSapi_Field) (a := t34) tok61 z1 z2 (leb rfl)) <| .n) fun n7 a w hst => ?_
   replace hst : St _ _ _ [_,_,_,_,_,_,_,_,_,_] [_] _ _ := ((((hst.pick [3,4,6,7,8,9,10,11,12,13]).selA [1,0] rfl).shareB 0 rfl).add 0 rfl (fun _ _ _ h => h.2)).pick [0,3,4,5,6,7,8,9,10,11]
   obtain ⟨t50,ht50,h⟩ := bind_some h
   refine sr mixed [] hst (fun _ => .o (op_field fld61_3 z0) <| .o (op_loadT (R := rI) (u := (t34).Kind) tok3 z0 rfl) <| .o (op_eql z0 .k) <| .q 0 rfl <| .g rfl rfl (.b 0 rfl) (fun _ => op_field fld61_1 z4) <| .g rfl rfl (.b 1 rfl) (fun hc => op_loadT (R := rS) (u := (t34).Of) tok9 (.cond z0 hc) rfl) <| .g rfl rfl (.b 2 rfl) (fun _ => op_field fld61_0 z14) <| .g rfl rfl (.b 3 rfl) (fun hc => op_loadT (R := rS) (u := (f_).Name) tok9 (.cond z0 hc) rfl) <| .g rfl rfl (.b 4 rfl) (fun hc => op_eqlS (.cond z2 hc) (.cond z0 hc)) <| .o (op_and z5 (fun hp => (.cond z0 (beqT hp)))) <| .q 0 rfl <| .g rfl rfl (.b 0 rfl) (fun _ => op_load tok27 z18) <| .g rfl rfl (.b 1 rfl) (fun _ => op_move z18) <| .g rfl rfl (.b 2 rfl) (fun _ => op_move z14) <| .g rfl rfl (.b 3 rfl) (fun hc => op_callF call217 (typing_Up_ok (opt_t ht50 hc)) (.cons (.of (.cond z2 hc)) <| .cons (.of (.cond z1 hc)) <| .cons (.of (.cond z0 hc)) <| .nil)) <| .g rfl rfl (.b 4 rfl) (fun _ => op_move z24) <| .g rfl rfl (.b 5 rfl) (fun hc => op_eql (.cond z1 hc) (.cond z0 hc)) <| .o (op_and z6 (fun hp => (.cond z0 (beqT hp)))) <| .n) fun n8 a w hst => ?_
   replace hst := hst.to [17,19,20,21,22,23,24,25,26,27] [_,_,_,_,_,_,_,_,_,_] [_] rfl rfl
   obtain ⟨p45,hp45,h⟩ := bind_some h
   have hJp45 : ∀ (v47 : Value) a w,St M w0 61 [(9,tv v47),(29,tsl rSapi_Field (t27).Fields),(30,ti ((t27).Fields.length : Int)),(31,ti s10.1),(8,ti t15),(3,tptr (rSapi_Schema.cs x_)),(5,tptr (rSapi_Field.cs f_)),(1,ti kind_)] [own rI 3 p45 v47] a w → K41 a w := by
    intro v47 a w hst
    refine hK41 _ _ ?_
    try clear hK41 K41
    refine wr mixed [] hst (fun _ => .o (op_add z3 .k) <| .q 0 rfl <| .n) fun n10 a w hst => ?_
    replace hst := hst.to [1,2,3,4,5,6,7,8] [_,_,_,_,_,_,_,_] [_] rfl rfl
    exact hK38 _ _ _ (sj h).symm ⟨v47,hst.pick [2,3,0,1,4,5,6,7]⟩
   replace h := hp45
   clear hp45
   refine wt hst (fun b48 => ?_) (fun b48 => ?_)
   ·replace h := ite_t b48 h
    obtain ⟨u57,hu57,h⟩ := bind_some h
    refine wr mixed [v1 3 (fun v0 => own rI 3 (s10.2 ++ [s10.1]) v0)] hst (fun _ => .q 5 rfl <| .q 2 rfl <| .o (op_buildSl (R := rI) (us := [s10.1]) ud22 tok3 (.cons z0 <| .nil _) rfl (leb rfl)) <| .e [] [0] [1] rfl rfl rfl rfl (op_append (R := rI) ud22 tok3 (leb rfl) z2 z0 hu57) <| .ud (f := fun v => tv v) 3 rfl [] rfl rfl (op_assign z0) <| .n) fun n9 a w hst => ?_
    replace hst := hst.to [3,4,7,8,9,10,11,12,13] [_,_,_,_,_,_,_,_,_] [_] rfl rfl
    obtain rfl := sj h
    exact hJp45 (n9 3) _ _ (hst.pick [1,2,3,4,5,6,7,8])
   ·replace h := ite_f b48 h
    refine wp_skip ?_
    obtain rfl := sj h
    exact hJp45 v23 _ _ (hst.pick [5,2,3,4,6,7,8,9])
  ·replace h := ite_f b49 h
   refine wp_exit ?_
   exact hJp35 _ v23 _ _ (ho _ (sj h).symm) (hst.pick [4,5])

/- diorama/typing.checks$5 -/
noncomputable def ftyping_checksq5 (s_ : Styping_spot) : Option (Int) := (ftyping_shares (s_).x (s_).kind (s_).f).bind fun t12 => (ftyping_first [(Styping_fault.mk (decide (t12.1 < (0:Int))) (12:Int)),(Styping_fault.mk ((t12.2.length : Int) != (1:Int)) (11:Int))]).bind fun t23 => (some t23)
set_option maxRecDepth 100000 in
set_option maxHeartbeats 4000000 in
theorem typing_checksq5_ok {s_ : Styping_spot} {r : Int} (h : ftyping_checksq5 s_ = some r) : FnOk Tryz.prog 212 [rStyping_spot.ty s_] [] (fun _ => []) (fun _ => ti r) := by
 unfold ftyping_checksq5 at h
 refine FnOk.enter Tryz.func212 rfl Tryz.ntmps212 (leb rfl) (fun M0 M w0 a hpl hst => ?_)
 replace hst : St M w0 24 [(0,rStyping_spot.ty s_)] [] a w0 := hst
 refine sr mixed [] hst (fun _ => .o (op_boxR (R := rStyping_spot) (u := s_) z0) <| .o (op_assign .k) <| .n) fun n0 a w hst => ?_
 replace hst := hst.to [0] [_] [] rfl rfl
 obtain ⟨t12,ht12,h⟩ := bind_some h
 refine sr mixed [] hst (fun _ => .o (op_field fld133_0 z0) <| .o (op_loadT (R := rSapi_Schema) (u := (s_).x) tok27 z0 rfl) <| .o (op_field fld133_1 z2) <| .o (op_loadT (R := rI) (u := (s_).kind) tok3 z0 rfl) <| .o (op_field fld133_3 z4) <| .o (op_loadT (R := rSapi_Field) (u := (s_).f) tok61 z0 rfl) <| .o (op_callF call213 (typing_shares_ok ht12) (.cons (.of z4) <| .cons (.of z2) <| .cons (.of z0) <| .nil)) <| .q 0 rfl <| .o (op_extract z0 rfl) <| .o (op_extract z1 rfl) <| .o (op_assign z1) <| .o (op_assign z1) <| .n) fun n1 a w hst => ?_
 replace hst := hst.to [10,11] [_,_] [] rfl rfl
 obtain ⟨t23,ht23,h⟩ := bind_some h
 refine sr mixed [] hst (fun _ => .q 0 rfl <| .o (op_lss z0 .k) <| .p (T := rStyping_fault.ty (Styping_fault.mk (decide (t12.1 < (0:Int))) (12:Int))) rfl (op_build ud125 pl125 zv125 zc125 (.cons (R := rBool) (u := (decide (t12.1 < (0:Int)))) rfl z0 (leb rfl) <| .cons (R := rI) (u := (12:Int)) rfl .k (leb rfl) <| .nil _)) <| .q 4 rfl <| .o (op_len ud22 z0) <| .o (op_neq z0 .k) <| .p (T := rStyping_fault.ty (Styping_fault.mk ((t12.2.length : Int) != (1:Int)) (11:Int))) rfl (op_build ud125 pl125 zv125 zc125 (.cons (R := rBool) (u := ((t12.2.length : Int) != (1:Int))) rfl z0 (leb rfl) <| .cons (R := rI) (u := (11:Int)) rfl .k (leb rfl) <| .nil _)) <| .o (op_buildSl (R := rStyping_fault) (us := [(Styping_fault.mk (decide (t12.1 < (0:Int))) (12:Int)),(Styping_fault.mk ((t12.2.length : Int) != (1:Int)) (11:Int))]) ud166 tok125 (.cons z4 <| .cons z0 <| .nil _) rfl (leb rfl)) <| .o (op_callF call66 (typing_first_ok ht23) (.cons (.of z0) <| .nil)) <| .o (op_assign z0) <| .n) fun n2 a w hst => ?_
 replace hst := hst.to [9] [_] [] rfl rfl
 refine wp_ret ?_
 obtain rfl := sj h
 exact ret_st undef [] hpl hst rfl (.tmp z0 .nil) rfl rfl rfl

/- (diorama/typing.spot).top -/
noncomputable def ftyping_spot_top (s_ : Styping_spot) : Option (Sapi_Field × Bool) := (ftyping_Up (s_).x (s_).kind (s_).field).bind fun t11 => (if (decide (t11 < (0:Int))) = true then (some (zz0,false)) else (idx ((s_).x).Kinds t11).bind fun t22 => (ftyping_Field t22 ((s_).f).Of).bind fun t27 => (ftyping_at (s_).x t11 t27).bind fun t28 => (some (t28.1,t28.2)))
set_option maxRecDepth 100000 in
set_option maxHeartbeats 4000000 in
theorem typing_spot_top_ok {s_ : Styping_spot} {r : Sapi_Field × Bool} (h : ftyping_spot_top s_ = some r) : FnOk Tryz.prog 215 [rStyping_spot.ty s_] [] (fun _ => []) (fun _ => ttup [rSapi_Field.ty r.1,tb r.2]) := by
 unfold ftyping_spot_top at h
 refine FnOk.enter Tryz.func215 rfl Tryz.ntmps215 (leb rfl) (fun M0 M w0 a hpl hst => ?_)
 replace hst : St M w0 31 [(0,rStyping_spot.ty s_)] [] a w0 := hst
 refine sr mixed [v1 1 (fun v0 => box (rSapi_Field.cs zz0) v0)] hst (fun _ => .o (op_boxR (R := rStyping_spot) (u := s_) z0) <| .m [] [0] rfl rfl rfl (op_alloc (R := rSapi_Field) (a := zz0) tok61 zok61) <| .o (op_assign .k) <| .n) fun n0 a w hst => ?_
 replace hst := hst.to [0,1] [_,_] [_] rfl rfl
 obtain ⟨t11,ht11,h⟩ := bind_some h
 refine sr mixed [] hst (fun _ => .o (op_field fld133_0 z0) <| .o (op_loadT (R := rSapi_Schema) (u := (s_).x) tok27 z0 rfl) <| .o (op_field fld133_1 z2) <| .o (op_loadT (R := rI) (u := (s_).kind) tok3 z0 rfl) <| .o (op_field fld133_2 z4) <| .o (op_loadT (R := rI) (u := (s_).field) tok3 z0 rfl) <| .o (op_callF call217 (typing_Up_ok ht11) (.cons (.of z4) <| .cons (.of z2) <| .cons (.of z0) <| .nil)) <| .o (op_assign z0) <| .n) fun n1 a w hst => ?_
 replace hst := hst.to [7,8,9] [_,_,_] [_] rfl rfl
 refine wp_seq_k (fun K4 hK4 => ?_)
 refine sr mixed [] hst (fun _ => .q 0 rfl <| .o (op_lss z0 .k) <| .n) fun n2 a w hst => ?_
 replace hst := hst.to [1,2,3,4] [_,_,_,_] [_] rfl rfl
 refine wt hst (fun b8 => ?_) (fun b8 => ?_)
 ·replace h := ite_t b8 h
  refine sr mixed [v0 (box (rSapi_Field.cs zz0) (n0 1))] hst (fun _ => .p (T := rSapi_Field.ty zz0) rfl (op_build ud61 pl61 zv61 zc61 (.nil _)) <| .e [] [0] [1] rfl rfl rfl rfl (op_storeB (R := rSapi_Field) (a := zz0) tok61 z4 z0 (leb rfl)) <| .o (op_assign .k) <| .n) fun n3 a w hst => ?_
  replace hst := hst.to [1,5] [_,_] [_] rfl rfl
  refine wp_ret ?_
  obtain rfl := sj h
  exact ret_st undef [] hpl hst rfl (.cell (R := rSapi_Field) (u := zz0) tok61 z1 0 rfl rfl (.tmp z0 .nil)) rfl rfl rfl
 ·replace h := ite_f b8 h
  refine wp_skip ?_
  refine hK4 _ _ ?_
  try clear hK4 K4
  obtain ⟨t22,ht22,h⟩ := bind_some h
  obtain ⟨t27,ht27,h⟩ := bind_some h
  obtain ⟨t28,ht28,h⟩ := bind_some h
  refine sr mixed [v0 (box (rSapi_Field.cs t28.1) (n0 1))] hst (fun _ => .o (op_field fld133_0 z2) <| .o (op_loadT (R := rSapi_Schema) (u := (s_).x) tok27 z0 rfl) <| .q 3 rfl <| .o (op_field fld133_0 z5) <| .o (op_field fld27_1 z0) <| .o (op_loadT (R := (rSl rSapi_Kind)) (u := ((s_).x).Kinds) tok23 z0 rfl) <| .q 7 rfl <| .o (op_index ud23 tok55 z1 z0 ht22) <| .o (op_load tok55 z0) <| .o (op_field fld133_3 z11) <| .o (op_field fld61_1 z0) <| .o (op_loadT (R := rS) (u := ((s_).f).Of) tok9 z0 rfl) <| .o (op_callF call68 (typing_Field_ok ht27) (.cons (.of z3) <| .cons (.of z0) <| .nil)) <| .o (op_callF call110 (typing_at_ok ht28) (.cons (.of z11) <| .cons (.of z10) <| .cons (.of z0) <| .nil)) <| .o (op_extract z0 rfl) <| .o (op_extract z1 rfl) <| .e [] [0] [1] rfl rfl rfl rfl (op_storeB (R := rSapi_Field) (a := t28.1) tok61 z19 z1 (leb rfl)) <| .o (op_assign z0) <| .n) fun n4 a w hst => ?_
  replace hst := hst.to [16,20] [_,_] [_] rfl rfl
  refine wp_ret ?_
  obtain rfl := sj h
  exact ret_st undef [] hpl hst rfl (.cell (R := rSapi_Field) (u := t28.1) tok61 z1 0 rfl rfl (.tmp z0 .nil)) rfl rfl rfl

/- diorama/typing.checks$6 -/
noncomputable def ftyping_checksq6 (s_ : Styping_spot) : Option (Int) := (ftyping_spot_top s_).bind fun t7 => (ftyping_spot_lost s_).bind fun t11 => (opt (((!t7.2) || ((t7.1).Kind != (6:Int))) == false) (ftyping_Kind (s_).x (t7.1).Of) default).bind fun t25 => (ftyping_first [(Styping_fault.mk t11 (12:Int)),(Styping_fault.mk (((!t7.2) || ((t7.1).Kind != (6:Int))) || (t25 != (s_).kind)) (13:Int))]).bind fun t32 => (some t32)
set_option maxRecDepth 100000 in
set_option maxHeartbeats 4000000 in
theorem typing_checksq6_ok {s_ : Styping_spot} {r : Int} (h : ftyping_checksq6 s_ = some r) : FnOk Tryz.prog 214 [rStyping_spot.ty s_] [] (fun _ => []) (fun _ => ti r) := by
 unfold ftyping_checksq6 at h
 refine FnOk.enter Tryz.func214 rfl Tryz.ntmps214 (leb rfl) (fun M0 M w0 a hpl hst => ?_)
 replace hst : St M w0 33 [(0,rStyping_spot.ty s_)] [] a w0 := hst
 refine sr mixed [] hst (fun _ => .o (op_boxR (R := rStyping_spot) (u := s_) z0) <| .o (op_assign .k) <| .n) fun n0 a w hst => ?_
 replace hst := hst.to [0] [_] [] rfl rfl
 obtain ⟨t7,ht7,h⟩ := bind_some h
 refine sr mixed [v1 5 (fun v0 => box (rSapi_Field.cs zz0) v0),v1 5 (fun v0 => box (rSapi_Field.cs t7.1) v0)] hst (fun _ => .o (op_load tok133 z0) <| .o (op_callF call215 (typing_spot_top_ok ht7) (.cons (.of z0) <| .nil)) <| .q 0 rfl <| .o (op_extract z0 rfl) <| .o (op_extract z1 rfl) <| .m [] [0] rfl rfl rfl (op_alloc (R := rSapi_Field) (a := zz0) tok61 zok61) <| .e [] [0] [1] rfl rfl rfl rfl (op_storeB (R := rSapi_Field) (a := t7.1) tok61 z0 z2 (leb rfl)) <| .o (op_assign z1) <| .n) fun n1 a w hst => ?_
 replace hst : St _ _ _ [_,_,_] [] _ _ := (((hst.pick [5,6,7]).shareB 0 rfl).add 0 rfl (fun _ _ _ h => h.2)).pick [0,3,4]
 obtain ⟨t11,ht11,h⟩ := bind_some h
 obtain ⟨t25,ht25,h⟩ := bind_some h
 obtain ⟨t32,ht32,h⟩ := bind_some h
 refine sr mixed [] hst (fun _ => .o (op_load tok133 z2) <| .o (op_callF call204 (typing_spot_lost_ok ht11) (.cons (.of z0) <| .nil)) <| .p (T := rStyping_fault.ty (Styping_fault.mk t11 (12:Int))) rfl (op_build ud125 pl125 zv125 zc125 (.cons (R := rBool) (u := t11) rfl z0 (leb rfl) <| .cons (R := rI) (u := (12:Int)) rfl .k (leb rfl) <| .nil _)) <| .q 4 rfl <| .o (op_not z0) <| .q 0 rfl <| .g rfl rfl (.b 0 rfl) (fun _ => op_field fld61_3 z6) <| .g rfl rfl (.b 1 rfl) (fun hc => op_loadT (R := rI) (u := (t7.1).Kind) tok3 (.cond z0 hc) rfl) <| .g rfl rfl (.b 2 rfl) (fun hc => op_neq (.cond z0 hc) .k) <| .o (op_or z3 (fun hp => (.cond z0 (beqF hp)))) <| .q 0 rfl <| .g rfl rfl (.b 0 rfl) (fun _ => op_field fld133_0 z13) <| .g rfl rfl (.b 1 rfl) (fun hc => op_loadT (R := rSapi_Schema) (u := (s_).x) tok27 (.cond z0 hc) rfl) <| .g rfl rfl (.b 2 rfl) (fun _ => op_field fld61_1 z13) <| .g rfl rfl (.b 3 rfl) (fun hc => op_loadT (R := rS) (u := (t7.1).Of) tok9 (.cond z0 hc) rfl) <| .g rfl rfl (.b 4 rfl) (fun hc => op_callF call38 (typing_Kind_ok (opt_t ht25 hc)) (.cons (.of (.cond z2 hc)) <| .cons (.of (.cond z0 hc)) <| .nil)) <| .g rfl rfl (.b 5 rfl) (fun _ => op_field fld133_1 z18) <| .g rfl rfl (.b 6 rfl) (fun hc => op_loadT (R := rI) (u := (s_).kind) tok3 (.cond z0 hc) rfl) <| .g rfl rfl (.b 7 rfl) (fun hc => op_neq (.cond z2 hc) (.cond z0 hc)) <| .o (op_or z8 (fun hp => (.cond z0 (beqF hp)))) <| .p (T := rStyping_fault.ty (Styping_fault.mk (((!t7.2) || ((t7.1).Kind != (6:Int))) || (t25 != (s_).kind)) (13:Int))) rfl (op_build ud125 pl125 zv125 zc125 (.cons (R := rBool) (u := (((!t7.2) || ((t7.1).Kind != (6:Int))) || (t25 != (s_).kind))) rfl z0 (leb rfl) <| .cons (R := rI) (u := (13:Int)) rfl .k (leb rfl) <| .nil _)) <| .o (op_buildSl (R := rStyping_fault) (us := [(Styping_fault.mk t11 (12:Int)),(Styping_fault.mk (((!t7.2) || ((t7.1).Kind != (6:Int))) || (t25 != (s_).kind)) (13:Int))]) ud166 tok125 (.cons z18 <| .cons z0 <| .nil _) rfl (leb rfl)) <| .o (op_callF call66 (typing_first_ok ht32) (.cons (.of z0) <| .nil)) <| .o (op_assign z0) <| .n) fun n2 a w hst => ?_
 replace hst := hst.to [23] [_] [] rfl rfl
 refine wp_ret ?_
 obtain rfl := sj h
 exact ret_st undef [] hpl hst rfl (.tmp z0 .nil) rfl rfl rfl

/- diorama/typing.checks$7 -/
noncomputable def ftyping_checksq7 (s_ : Styping_spot) : Option (Int) := (ftyping_spot_top s_).bind fun t8 => (ftyping_spot_lost s_).bind fun t35 => (ftyping_first [(Styping_fault.mk t35 (12:Int)),(Styping_fault.mk ((!t8.2) || (!((((((t8.1).Kind == (2:Int)) || ((t8.1).Kind == (3:Int))) || ((t8.1).Kind == (4:Int))) || ((t8.1).Kind == (5:Int))) || ((t8.1).Kind == (8:Int))))) (13:Int))]).bind fun t45 => (some t45)
set_option maxRecDepth 100000 in
set_option maxHeartbeats 4000000 in
theorem typing_checksq7_ok {s_ : Styping_spot} {r : Int} (h : ftyping_checksq7 s_ = some r) : FnOk Tryz.prog 216 [rStyping_spot.ty s_] [] (fun _ => []) (fun _ => ti r) := by
 unfold ftyping_checksq7 at h
 refine FnOk.enter Tryz.func216 rfl Tryz.ntmps216 (leb rfl) (fun M0 M w0 a hpl hst => ?_)
 replace hst : St M w0 46 [(0,rStyping_spot.ty s_)] [] a w0 := hst
 refine sr mixed [] hst (fun _ => .o (op_boxR (R := rStyping_spot) (u := s_) z0) <| .o (op_assign .k) <| .n) fun n0 a w hst => ?_
 replace hst := hst.to [0] [_] [] rfl rfl
 obtain ⟨t8,ht8,h⟩ := bind_some h
 refine sr mixed [v1 5 (fun v0 => box (rSapi_Field.cs zz0) v0),v1 5 (fun v0 => box (rSapi_Field.cs t8.1) v0)] hst (fun _ => .o (op_load tok133 z0) <| .o (op_callF call215 (typing_spot_top_ok ht8) (.cons (.of z0) <| .nil)) <| .q 0 rfl <| .o (op_extract z0 rfl) <| .o (op_extract z1 rfl) <| .m [] [0] rfl rfl rfl (op_alloc (R := rSapi_Field) (a := zz0) tok61 zok61) <| .e [] [0] [1] rfl rfl rfl rfl (op_storeB (R := rSapi_Field) (a := t8.1) tok61 z0 z2 (leb rfl)) <| .o (op_assign z1) <| .n) fun n1 a w hst => ?_
 replace hst : St _ _ _ [_,_,_] [] _ _ := (((hst.pick [5,6,7]).shareB 0 rfl).add 0 rfl (fun _ _ _ h => h.2)).pick [0,3,4]
 refine sr mixed [] hst (fun _ => .o (op_field fld61_3 z0) <| .o (op_loadT (R := rI) (u := (t8.1).Kind) tok3 z0 rfl) <| .o (op_eql z0 .k) <| .q 0 rfl <| .g rfl rfl (.b 0 rfl) (fun _ => op_field fld61_3 z4) <| .g rfl rfl (.b 1 rfl) (fun hc => op_loadT (R := rI) (u := (t8.1).Kind) tok3 (.cond z0 hc) rfl) <| .g rfl rfl (.b 2 rfl) (fun hc => op_eql (.cond z0 hc) .k) <| .o (op_or z3 (fun hp => (.cond z0 (beqF hp)))) <| .q 0 rfl <| .g rfl rfl (.b 0 rfl) (fun _ => op_field fld61_3 z9) <| .g rfl rfl (.b 1 rfl) (fun hc => op_loadT (R := rI) (u := (t8.1).Kind) tok3 (.cond z0 hc) rfl) <| .g rfl rfl (.b 2 rfl) (fun hc => op_eql (.cond z0 hc) .k) <| .o (op_or z3 (fun hp => (.cond z0 (beqF hp)))) <| .q 0 rfl <| .g rfl rfl (.b 0 rfl) (fun _ => op_field fld61_3 z14) <| .g rfl rfl (.b 1 rfl) (fun hc => op_loadT (R := rI) (u := (t8.1).Kind) tok3 (.cond z0 hc) rfl) <| .g rfl rfl (.b 2 rfl) (fun hc => op_eql (.cond z0 hc) .k) <| .o (op_or z3 (fun hp => (.cond z0 (beqF hp)))) <| .q 0 rfl <| .g rfl rfl (.b 0 rfl) (fun _ => op_field fld61_3 z19) <| .g rfl rfl (.b 1 rfl) (fun hc => op_loadT (R := rI) (u := (t8.1).Kind) tok3 (.cond z0 hc) rfl) <| .g rfl rfl (.b 2 rfl) (fun hc => op_eql (.cond z0 hc) .k) <| .o (op_or z3 (fun hp => (.cond z0 (beqF hp)))) <| .o (op_assign z0) <| .n) fun n2 a w hst => ?_
 replace hst := hst.to [23,25,26] [_,_,_] [] rfl rfl
 obtain ⟨t35,ht35,h⟩ := bind_some h
 obtain ⟨t45,ht45,h⟩ := bind_some h
 refine sr mixed [] hst (fun _ => .o (op_load tok133 z2) <| .o (op_callF call204 (typing_spot_lost_ok ht35) (.cons (.of z0) <| .nil)) <| .p (T := rStyping_fault.ty (Styping_fault.mk t35 (12:Int))) rfl (op_build ud125 pl125 zv125 zc125 (.cons (R := rBool) (u := t35) rfl z0 (leb rfl) <| .cons (R := rI) (u := (12:Int)) rfl .k (leb rfl) <| .nil _)) <| .q 4 rfl <| .o (op_not z0) <| .q 0 rfl <| .g rfl rfl (.b 0 rfl) (fun _ => op_move z6) <| .g rfl rfl (.b 1 rfl) (fun hc => op_not (.cond z0 hc)) <| .o (op_or z2 (fun hp => (.cond z0 (beqF hp)))) <| .p (T := rStyping_fault.ty (Styping_fault.mk ((!t8.2) || (!((((((t8.1).Kind == (2:Int)) || ((t8.1).Kind == (3:Int))) || ((t8.1).Kind == (4:Int))) || ((t8.1).Kind == (5:Int))) || ((t8.1).Kind == (8:Int))))) (13:Int))) rfl (op_build ud125 pl125 zv125 zc125 (.cons (R := rBool) (u := ((!t8.2) || (!((((((t8.1).Kind == (2:Int)) || ((t8.1).Kind == (3:Int))) || ((t8.1).Kind == (4:Int))) || ((t8.1).Kind == (5:Int))) || ((t8.1).Kind == (8:Int)))))) rfl z0 (leb rfl) <| .cons (R := rI) (u := (13:Int)) rfl .k (leb rfl) <| .nil _)) <| .o (op_buildSl (R := rStyping_fault) (us := [(Styping_fault.mk t35 (12:Int)),(Styping_fault.mk ((!t8.2) || (!((((((t8.1).Kind == (2:Int)) || ((t8.1).Kind == (3:Int))) || ((t8.1).Kind == (4:Int))) || ((t8.1).Kind == (5:Int))) || ((t8.1).Kind == (8:Int))))) (13:Int))]) ud166 tok125 (.cons z7 <| .cons z0 <| .nil _) rfl (leb rfl)) <| .o (op_callF call66 (typing_first_ok ht45) (.cons (.of z0) <| .nil)) <| .o (op_assign z0) <| .n) fun n3 a w hst => ?_
 replace hst := hst.to [12] [_] [] rfl rfl
 refine wp_ret ?_
 obtain rfl := sj h
 exact ret_st undef [] hpl hst rfl (.tmp z0 .nil) rfl rfl rfl

noncomputable def fChecks (i : Int) : Option (Styping_spot → Option Int) := if i = 0 then some ftyping_checksq1 else if i = 1 then some ftyping_checksq2 else if i = 4 then some ftyping_checksq3 else if i = 5 then some ftyping_checksq4 else if i = 6 then some ftyping_checksq5 else if i = 7 then some ftyping_checksq6 else if i = 8 then some ftyping_checksq7 else none
set_option maxRecDepth 100000 in
theorem op_lookG0 {Γ : List (Nat × Ty)} {d : Option Tmp} {ty : TypeId} {pos : String} {af : Array Edge} {g : Option (Nat × Bool)} {x y : Operand} {i : Int} (hx : Fct Γ x tgloM0) (hi : Fct Γ y (tv (.int .i64 i))) :
  OpJ Tryz.prog ⟨d,.lookup 131 x y true,ty,pos,af,g⟩ Γ [] [] (fun _ => []) (fun _ => ttup [rSX_check.ty (SX_check.mk (fChecks i)),tv (.bool (fChecks i).isSome)]) := by
 have key : (findE ents0 i).isSome = (fChecks i).isSome ∧ ∀ F w,(rSX_check.ty (SX_check.mk (fChecks i))).ok F w ((findE ents0 i).getD (.agg #[.nilFunc])) := by
  unfold fChecks
  by_cases h0 : i = 0
  ·subst h0; exact ⟨rfl,fun F w => ⟨_,rfl,.cons ⟨207,[],[],[],[],rfl,.nil,.nil,call207,fun _ _ hq => typing_checksq1_ok hq⟩ .nil⟩⟩
  by_cases h1 : i = 1
  ·subst h1; exact ⟨rfl,fun F w => ⟨_,rfl,.cons ⟨208,[],[],[],[],rfl,.nil,.nil,call208,fun _ _ hq => typing_checksq2_ok hq⟩ .nil⟩⟩
  by_cases h4 : i = 4
  ·subst h4; exact ⟨rfl,fun F w => ⟨_,rfl,.cons ⟨209,[],[],[],[],rfl,.nil,.nil,call209,fun _ _ hq => typing_checksq3_ok hq⟩ .nil⟩⟩
  by_cases h5 : i = 5
  ·subst h5; exact ⟨rfl,fun F w => ⟨_,rfl,.cons ⟨210,[],[],[],[],rfl,.nil,.nil,call210,fun _ _ hq => typing_checksq4_ok hq⟩ .nil⟩⟩
  by_cases h6 : i = 6
  ·subst h6; exact ⟨rfl,fun F w => ⟨_,rfl,.cons ⟨212,[],[],[],[],rfl,.nil,.nil,call212,fun _ _ hq => typing_checksq5_ok hq⟩ .nil⟩⟩
  by_cases h7 : i = 7
  ·subst h7; exact ⟨rfl,fun F w => ⟨_,rfl,.cons ⟨214,[],[],[],[],rfl,.nil,.nil,call214,fun _ _ hq => typing_checksq6_ok hq⟩ .nil⟩⟩
  by_cases h8 : i = 8
  ·subst h8; exact ⟨rfl,fun F w => ⟨_,rfl,.cons ⟨216,[],[],[],[],rfl,.nil,.nil,call216,fun _ _ hq => typing_checksq7_ok hq⟩ .nil⟩⟩
  simp only [findE,ents0,if_neg h0,if_neg h1,if_neg h4,if_neg h5,if_neg h6,if_neg h7,if_neg h8]
  exact ⟨rfl,fun F w => ⟨_,rfl,.cons rfl .nil⟩⟩
 have h := op_lookC (P := Tryz.prog) (Γ := Γ) (d := d) (ty := ty) (pos := pos) (af := af) (g := g) (V := fun _ => rSX_check.ty (SX_check.mk (fChecks i))) Tryz.underlying131 ud3 zv129 hx hi key.2
 rw [key.1] at h
 exact h
/- diorama/typing.Check -/
noncomputable def ftyping_Check (x_ : Sapi_Schema) : Option ((List Styping_Problem)) := (fschema_Valid x_).bind fun t18 => (if (t18 != (0:Int)) = true then (some [(Styping_Problem.mk (-1:Int) (-1:Int) (-1:Int) t18)]) else (tailrec (fun (s12 : Int × List Styping_Problem) => ((if (decide (s12.1 < ((x_).Lives.length : Int))) = true then (idx (x_).Lives s12.1).bind fun t31 => (sub (x_).Lives (0:Int) s12.1).bind fun t36 => (fslices_ContainsFunc_Life t36 (fun x0 => ftyping_Checkq2 x0 t31)).bind fun t38 => (ftyping_first [(Styping_fault.mk t38 (7:Int))]).bind fun t44 => (ftyping_Checkq1 (-1:Int) s12.1 (-1:Int) t44 s12.2).bind fun t45 => (some (.inl ((IntKind.i64.wrap (s12.1 + (1:Int))),t45))) else (some (.inr s12.2))) : Option ((Int × List Styping_Problem) ⊕ ((List Styping_Problem))))) ((0:Int),([] : List Styping_Problem))).bind fun (p29 : (List Styping_Problem)) => (tailrec (fun (s33 : Int × List Styping_Problem) => ((if (decide (s33.1 < ((x_).Kinds.length : Int))) = true then (idx (x_).Kinds s33.1).bind fun t53 => (ftyping_kind x_ s33.1).bind fun t59 => (ftyping_Checkq1 s33.1 (-1:Int) (-1:Int) t59 s33.2).bind fun t60 => (tailrec (fun (s182 : Int × List Styping_Problem) => ((if (decide (s182.1 < ((t53).Fields.length : Int))) = true then (idx (t53).Fields s182.1).bind fun t67 => (ftyping_Field t53 (t67).Name).bind fun t72 => (ftyping_first [(Styping_fault.mk (decide (t72 < s182.1)) (7:Int))]).bind fun t77 => ((if ((fChecks (t67).Kind).isSome && (t77 == (0:Int))) = true then (callO ((SX_check.mk (fChecks (t67).Kind))).check (Styping_spot.mk x_ s33.1 s182.1 t67)).bind fun t97 => (some t97) else (some t77))).bind fun (p226 : Int) => (ftyping_Checkq1 s33.1 s182.1 (-1:Int) p226 s182.2).bind fun t102 => (some (.inl ((IntKind.i64.wrap (s182.1 + (1:Int))),t102))) else (some (.inr s182.2))) : Option ((Int × List Styping_Problem) ⊕ ((List Styping_Problem))))) ((0:Int),t60)).bind fun (p213 : (List Styping_Problem)) => (some (.inl ((IntKind.i64.wrap (s33.1 + (1:Int))),p213))) else (some (.inr s33.2))) : Option ((Int × List Styping_Problem) ⊕ ((List Styping_Problem))))) ((0:Int),p29)).bind fun (p148 : (List Styping_Problem)) => (tailrec (fun (s152 : Int × List Styping_Problem) => ((if (decide (s152.1 < ((x_).Rules.length : Int))) = true then (ftyping_rule x_ s152.1).bind fun t115 => (ftyping_Checkq1 (-1:Int) (-1:Int) s152.1 t115 s152.2).bind fun t116 => (some (.inl ((IntKind.i64.wrap (s152.1 + (1:Int))),t116))) else (some (.inr s152.2))) : Option ((Int × List Styping_Problem) ⊕ ((List Styping_Problem))))) ((0:Int),p148)).bind fun (p165 : (List Styping_Problem)) => (some p165))
set_option maxRecDepth 100000 in
set_option maxHeartbeats 4000000 in
theorem typing_Check_ok {x_ : Sapi_Schema} {r : (List Styping_Problem)} (h : ftyping_Check x_ = some r) : FnOk Tryz.prog 30 [rSapi_Schema.ty x_] [glo] (fun _ => []) (fun _ => tsl rStyping_Problem r) := by
 unfold ftyping_Check at h
 refine FnOk.enter Tryz.func30 rfl Tryz.ntmps30 (leb rfl) (fun M0 M w0 a hpl hst => ?_)
 replace hst : St M w0 119 [(0,rSapi_Schema.ty x_)] [glo] a w0 := hst
 refine sr mixed [] hst (fun _ => .o (op_boxR (R := rSapi_Schema) (u := x_) z0) <| .o (op_assign (.nilsl (R := rStyping_Problem))) <| .n) fun n0 a w hst => ?_
 replace hst := hst.to [0] [_] [_] rfl rfl
 refine wp_seq_k (fun K2 hK2 => ?_)
 obtain ⟨t18,ht18,h⟩ := bind_some h
 refine sr mixed [] hst (fun _ => .o (op_load tok27 z0) <| .u [0] rfl rfl ((op_callF call62 (schema_Valid_ok ht18) (.cons (.of z0) <| .nil)).glo) <| .o (op_assign z0) <| .n) fun n1 a w hst => ?_
 replace hst := hst.to [2,3] [_,_] [_] rfl rfl
 refine sr mixed [] hst (fun _ => .q 0 rfl <| .o (op_neq z0 .k) <| .n) fun n2 a w hst => ?_
 replace hst := hst.to [1,2,3] [_,_,_] [_] rfl rfl
 refine wt hst (fun b239 => ?_) (fun b239 => ?_)
 ·replace h := ite_t b239 h
  refine sr mixed [] hst (fun _ => .q 1 rfl <| .p (T := rStyping_Problem.ty (Styping_Problem.mk (-1:Int) (-1:Int) (-1:Int) t18)) rfl (op_build Tryz.underlying119 pl119 zv119 zc119 (.cons (R := rI) (u := (-1:Int)) rfl .k (leb rfl) <| .cons (R := rI) (u := (-1:Int)) rfl .k (leb rfl) <| .cons (R := rI) (u := (-1:Int)) rfl .k (leb rfl) <| .cons (R := rI) (u := t18) rfl z0 (leb rfl) <| .nil _)) <| .o (op_buildSl (R := rStyping_Problem) (us := [(Styping_Problem.mk (-1:Int) (-1:Int) (-1:Int) t18)]) ud68 tok119 (.cons z0 <| .nil _) rfl (leb rfl)) <| .o (op_assign z0) <| .n) fun n3 a w hst => ?_
  replace hst := hst.to [3] [_] [_] rfl rfl
  refine wp_ret ?_
  obtain rfl := sj h
  exact ret_st undef [] hpl hst rfl (.tmp z0 .nil) rfl rfl rfl
 ·replace h := ite_f b239 h
  refine wp_skip ?_
  refine hK2 _ _ ?_
  try clear hK2 K2
  refine sr mixed [v1 0 (fun v0 => box (rVal.cs nilV) v0)] hst (fun _ => .m [] [1] rfl rfl rfl (op_allocV tokV68) <| .n) fun n4 a w hst => ?_
  replace hst : St _ _ _ [_,_] [_,_,_] _ _ := (hst.pick [0,3]).nil (rStyping_Problem) 119
  refine sr mixed [] hst (fun _ => .o (op_clo (.cons z0 <| .nil)) <| .o (op_assign z0) <| .n) fun n5 a w hst => ?_
  replace hst := hst.to [1,2,3] [_,_,_] [_,_,_] rfl rfl
  refine wp_seq_k (fun K10 hK10 => ?_)
  refine sr mixed [] hst (fun _ => .o (op_field fld27_2 z2) <| .o (op_loadT (R := (rSl rSapi_Life)) (u := (x_).Lives) tok24 z0 rfl) <| .o (op_len ud24 z0) <| .o (op_move .k) <| .n) fun n6 a w hst => ?_
  replace hst := hst.to [1,2,3,4,5,6] [_,_,_,_,_,_] [_,_,_] rfl rfl
  obtain ⟨e13,he13,h⟩ := bind_some h
  have hJp29 : ∀ (p29 : List Styping_Problem) (v30 : Value) a w,p29 = e13 → St M w0 119 [(5,tcloE 63 [tv (n4 0)]),(4,tv (n4 0)),(1,tptr (rSapi_Schema.cs x_))] [own rStyping_Problem 119 p29 v30,glo,box (rVal.cs v30) (n4 0)] a w → K10 a w := by
   intro p29 v30 a w he hst
   subst he
   refine hK10 _ _ ?_
   try clear hK10 K10
   refine wp_seq_k (fun K31 hK31 => ?_)
   refine sr mixed [] hst (fun _ => .o (op_field fld27_1 z2) <| .o (op_loadT (R := (rSl rSapi_Kind)) (u := (x_).Kinds) tok23 z0 rfl) <| .o (op_len ud23 z0) <| .o (op_move .k) <| .n) fun n12 a w hst => ?_
   replace hst := hst.to [1,2,3,4,5,6] [_,_,_,_,_,_] [_,_,_] rfl rfl
   obtain ⟨e34,he34,h⟩ := bind_some h
   have hJp148 : ∀ (p148 : List Styping_Problem) (v149 : Value) a w,p148 = e34 → St M w0 119 [(5,tcloE 63 [tv (n4 0)]),(4,tv (n4 0)),(1,tptr (rSapi_Schema.cs x_))] [own rStyping_Problem 119 p148 v149,glo,box (rVal.cs v149) (n4 0)] a w → K31 a w := by
    intro p148 v149 a w he hst
    subst he
    refine hK31 _ _ ?_
    try clear hK31 K31
    refine wp_seq_k (fun K150 hK150 => ?_)
    refine sr mixed [] hst (fun _ => .o (op_field fld27_3 z2) <| .o (op_loadT (R := (rSl rSapi_Rule)) (u := (x_).Rules) tok25 z0 rfl) <| .o (op_len ud25 z0) <| .o (op_move .k) <| .n) fun n26 a w hst => ?_
    replace hst := hst.to [2,3,4,5,6] [_,_,_,_,_] [_,_,_] rfl rfl
    obtain ⟨e153,he153,h⟩ := bind_some h
    have hJp165 : ∀ (p165 : List Styping_Problem) (v166 : Value) a w,p165 = e153 → St M w0 119 [(4,tv (n4 0))] [own rStyping_Problem 119 p165 v166,glo,box (rVal.cs v166) (n4 0)] a w → K150 a w := by
     intro p165 v166 a w he hst
     subst he
     refine hK150 _ _ ?_
     try clear hK150 K150
     refine sr mixed [] hst (fun _ => .u [2] rfl rfl (op_loadBV tokV68 z0) <| .o (op_assign z0) <| .n) fun n31 a w hst => ?_
     replace hst : St _ _ _ [_,_] [_,_] _ _ := (hst.pick [0,1]).selA [0,1] rfl
     refine wp_ret ?_
     replace hst : St _ _ _ [_] [_] _ _ := (hst.shareO 1 rfl).pick [0]
     obtain rfl := sj h
     exact ret_st undef [] hpl hst rfl (.tmp z0 .nil) rfl rfl rfl
    refine wp_block ?_
    refine wp_loopK _ (fun (s152 : Int × List Styping_Problem) a w => ∃ v159 : Value,St M w0 119 [(107,ti ((x_).Rules.length : Int)),(108,ti s152.1),(5,tcloE 63 [tv (n4 0)]),(4,tv (n4 0)),(1,tptr (rSapi_Schema.cs x_))] [own rStyping_Problem 119 s152.2 v159,glo,box (rVal.cs v159) (n4 0)] a w) _ _ he153 ⟨v149,hst.pick [0,1,2,3,4]⟩ ?_
    clear h
    intro s152 o a w K168 hI h ho hK168
    obtain ⟨v159,hst⟩ := hI
    refine sr mixed [] hst (fun _ => .o (op_lss z1 z0) <| .n) fun n27 a w hst => ?_
    replace hst := hst.to [0,1,2,3,4,5] [_,_,_,_,_,_] [_,_,_] rfl rfl
    refine wp_seq_k (fun K170 hK170 => ?_)
    refine wt hst (fun b173 => ?_) (fun b173 => ?_)
    ·replace h := ite_t b173 h
     refine wp_skip ?_
     refine hK170 _ _ ?_
     try clear hK170 K170
     refine wp_seq_k (fun K171 hK171 => ?_)
     refine wp_block ?_
     refine sr mixed [] hst (fun _ => .q 2 rfl <| .o (op_assign z0) <| .n) fun n28 a w hst => ?_
     replace hst := hst.to [1,3,4,5,6,7] [_,_,_,_,_,_] [_,_,_] rfl rfl
     obtain ⟨t115,ht115,h⟩ := bind_some h
     obtain ⟨t116,ht116,h⟩ := bind_some h
     refine wr mixed [v1 5 (fun v0 => box (rVal.cs v0) (n4 0)),v1 5 (fun v0 => own rStyping_Problem 119 t116 v0)] hst (fun _ => .q 3 rfl <| .q 1 rfl <| .o (op_load tok27 z7) <| .q 3 rfl <| .o (op_callF call69 (typing_rule_ok ht115) (.cons (.of z1) <| .cons (.of z0) <| .nil)) <| .e [] [2,0] [3,4] rfl rfl rfl rfl (op_callC call63 (typing_Checkq1_ok ht116) z4 (.cons (.of .k) <| .cons (.of .k) <| .cons (.of z3) <| .cons (.of z0) <| .nil)) <| .n) fun n29 a w hst => ?_
     replace hst := hst.to [7,8,9,10,11] [_,_,_,_,_] [_,_,_] rfl rfl
     refine hK171 _ _ ?_
     try clear hK171 K171
     refine wr mixed [] hst (fun _ => .o (op_add z1 .k) <| .q 0 rfl <| .n) fun n30 a w hst => ?_
     replace hst := hst.to [1,2,3,4,5] [_,_,_,_,_] [_,_,_] rfl rfl
     exact hK168 _ _ _ (sj h).symm ⟨(n29 5),(hst.pick [1,0,2,3,4]).selA [2,0,1] rfl⟩
    ·replace h := ite_f b173 h
     refine wp_exit ?_
     exact hJp165 _ v159 _ _ (ho _ (sj h).symm) (hst.pick [4])
   refine wp_block ?_
   refine wp_loopK _ (fun (s33 : Int × List Styping_Problem) a w => ∃ v91 : Value,St M w0 119 [(48,tsl rSapi_Kind (x_).Kinds),(49,ti ((x_).Kinds.length : Int)),(50,ti s33.1),(5,tcloE 63 [tv (n4 0)]),(4,tv (n4 0)),(1,tptr (rSapi_Schema.cs x_))] [own rStyping_Problem 119 s33.2 v91,glo,box (rVal.cs v91) (n4 0)] a w) _ _ he34 ⟨v30,hst.pick [0,1,2,3,4,5]⟩ ?_
   clear h
   intro s33 o a w K174 hI h ho hK174
   obtain ⟨v91,hst⟩ := hI
   refine sr mixed [] hst (fun _ => .o (op_lss z2 z1) <| .n) fun n13 a w hst => ?_
   replace hst := hst.to [0,1,2,3,4,5,6] [_,_,_,_,_,_,_] [_,_,_] rfl rfl
   refine wp_seq_k (fun K176 hK176 => ?_)
   refine wt hst (fun b230 => ?_) (fun b230 => ?_)
   ·replace h := ite_t b230 h
    refine wp_skip ?_
    refine hK176 _ _ ?_
    try clear hK176 K176
    refine wp_seq_k (fun K177 hK177 => ?_)
    refine wp_block ?_
    obtain ⟨t53,ht53,h⟩ := bind_some h
    refine sr mixed [v1 3 (fun v0 => box (rSapi_Kind.cs zz1) v0),v1 3 (fun v0 => box (rSapi_Kind.cs t53) v0)] hst (fun _ => .q 3 rfl <| .o (op_index ud23 tok55 z2 z4 ht53) <| .o (op_load tok55 z0) <| .m [] [3] rfl rfl rfl (op_alloc (R := rSapi_Kind) (a := zz1) tok55 zok55) <| .o (op_assign z3) <| .e [] [3] [4] rfl rfl rfl rfl (op_storeB (R := rSapi_Kind) (a := t53) tok55 z1 z2 (leb rfl)) <| .n) fun n14 a w hst => ?_
    replace hst : St _ _ _ [_,_,_,_,_,_,_,_] [_,_,_] _ _ := ((((hst.pick [3,4,6,7,8,9,10,11]).selA [3,0,1,2] rfl).shareB 0 rfl).add 0 rfl (fun _ _ _ h => h.2)).pick [0,3,4,5,6,7,8,9]
    obtain ⟨t59,ht59,h⟩ := bind_some h
    obtain ⟨t60,ht60,h⟩ := bind_some h
    refine sr mixed [v1 5 (fun v0 => box (rVal.cs v0) (n4 0)),v1 5 (fun v0 => own rStyping_Problem 119 t60 v0)] hst (fun _ => .q 5 rfl <| .q 2 rfl <| .o (op_load tok27 z9) <| .q 4 rfl <| .o (op_callF call67 (typing_kind_ok ht59) (.cons (.of z1) <| .cons (.of z0) <| .nil)) <| .e [] [2,0] [3,4] rfl rfl rfl rfl (op_callC call63 (typing_Checkq1_ok ht60) z4 (.cons (.of z3) <| .cons (.of .k) <| .cons (.of .k) <| .cons (.of z0) <| .nil)) <| .n) fun n15 a w hst => ?_
    replace hst := hst.to [6,7,8,9,10,11,12,13] [_,_,_,_,_,_,_,_] [_,_,_] rfl rfl
    refine sr mixed [] hst (fun _ => .o (op_field fld55_3 z0) <| .o (op_loadT (R := (rSl rSapi_Field)) (u := (t53).Fields) tok53 z0 rfl) <| .o (op_len ud53 z0) <| .o (op_move .k) <| .n) fun n16 a w hst => ?_
    replace hst := hst.to [1,2,3,4,5,6,7,8,9,10,11] [_,_,_,_,_,_,_,_,_,_,_] [_,_,_] rfl rfl
    obtain ⟨e183,he183,h⟩ := bind_some h
    have hJp213 : ∀ (p213 : List Styping_Problem) (v214 : Value) a w,p213 = e183 → St M w0 119 [(48,tsl rSapi_Kind (x_).Kinds),(49,ti ((x_).Kinds.length : Int)),(50,ti s33.1),(5,tcloE 63 [tv (n4 0)]),(4,tv (n4 0)),(1,tptr (rSapi_Schema.cs x_))] [glo,box (rVal.cs v214) (n4 0),own rStyping_Problem 119 p213 v214] a w → K177 a w := by
     intro p213 v214 a w he hst
     subst he
     refine hK177 _ _ ?_
     try clear hK177 K177
     refine wr mixed [] hst (fun _ => .o (op_add z2 .k) <| .q 0 rfl <| .n) fun n25 a w hst => ?_
     replace hst := hst.to [1,2,3,4,5,6] [_,_,_,_,_,_] [_,_,_] rfl rfl
     exact hK174 _ _ _ (sj h).symm ⟨v214,(hst.pick [1,2,0,3,4,5]).selA [2,0,1] rfl⟩
    refine wp_block ?_
    refine wp_loopK _ (fun (s182 : Int × List Styping_Problem) a w => ∃ v198 : Value,St M w0 119 [(62,tsl rSapi_Field (t53).Fields),(63,ti ((t53).Fields.length : Int)),(64,ti s182.1),(10,tptr (rSapi_Kind.cs t53)),(9,ti s33.1),(48,tsl rSapi_Kind (x_).Kinds),(49,ti ((x_).Kinds.length : Int)),(50,ti s33.1),(5,tcloE 63 [tv (n4 0)]),(4,tv (n4 0)),(1,tptr (rSapi_Schema.cs x_))] [glo,box (rVal.cs v198) (n4 0),own rStyping_Problem 119 s182.2 v198] a w) _ _ he183 ⟨(n15 5),hst.pick [0,1,2,3,4,5,6,7,8,9,10]⟩ ?_
    clear h
    intro s182 o a w K215 hI h ho hK215
    obtain ⟨v198,hst⟩ := hI
    refine sr mixed [] hst (fun _ => .o (op_lss z2 z1) <| .n) fun n17 a w hst => ?_
    replace hst := hst.to [0,1,2,3,4,5,6,7,8,9,10,11] [_,_,_,_,_,_,_,_,_,_,_,_] [_,_,_] rfl rfl
    refine wp_seq_k (fun K217 hK217 => ?_)
    refine wt hst (fun b229 => ?_) (fun b229 => ?_)
    ·replace h := ite_t b229 h
     refine wp_skip ?_
     refine hK217 _ _ ?_
     try clear hK217 K217
     refine wp_seq_k (fun K218 hK218 => ?_)
     refine wp_block ?_
     obtain ⟨t67,ht67,h⟩ := bind_some h
     refine sr mixed [v1 3 (fun v0 => box (rSapi_Field.cs zz0) v0),v1 3 (fun v0 => box (rSapi_Field.cs t67) v0)] hst (fun _ => .q 3 rfl <| .o (op_index ud53 tok61 z2 z4 ht67) <| .o (op_load tok61 z0) <| .m [] [3] rfl rfl rfl (op_alloc (R := rSapi_Field) (a := zz0) tok61 zok61) <| .o (op_assign z3) <| .e [] [3] [4] rfl rfl rfl rfl (op_storeB (R := rSapi_Field) (a := t67) tok61 z1 z2 (leb rfl)) <| .n) fun n18 a w hst => ?_
     replace hst : St _ _ _ [_,_,_,_,_,_,_,_,_,_,_,_,_] [_,_,_] _ _ := ((((hst.pick [3,4,6,7,8,9,10,11,12,13,14,15,16]).selA [3,0,1,2] rfl).shareB 0 rfl).add 0 rfl (fun _ _ _ h => h.2)).pick [0,3,4,5,6,7,8,9,10,11,12,13,14]
     obtain ⟨t72,ht72,h⟩ := bind_some h
     obtain ⟨t77,ht77,h⟩ := bind_some h
     refine sr mixed [] hst (fun _ => .o (op_load tok55 z5) <| .o (op_field fld61_0 z1) <| .o (op_loadT (R := rS) (u := (t67).Name) tok9 z0 rfl) <| .o (op_callF call68 (typing_Field_ok ht72) (.cons (.of z2) <| .cons (.of z0) <| .nil)) <| .q 5 rfl <| .o (op_lss z1 z0) <| .p (T := rStyping_fault.ty (Styping_fault.mk (decide (t72 < s182.1)) (7:Int))) rfl (op_build ud125 pl125 zv125 zc125 (.cons (R := rBool) (u := (decide (t72 < s182.1))) rfl z0 (leb rfl) <| .cons (R := rI) (u := (7:Int)) rfl .k (leb rfl) <| .nil _)) <| .o (op_buildSl (R := rStyping_fault) (us := [(Styping_fault.mk (decide (t72 < s182.1)) (7:Int))]) ud166 tok125 (.cons z0 <| .nil _) rfl (leb rfl)) <| .o (op_callF call66 (typing_first_ok ht77) (.cons (.of z0) <| .nil)) <| .o (op_assign z0) <| .n) fun n19 a w hst => ?_
     replace hst := hst.to [9,10,11,12,13,14,15,16,17,18,19,20,21,22] [_,_,_,_,_,_,_,_,_,_,_,_,_,_] [_,_,_] rfl rfl
     refine wp_seq_k (fun K222 hK222 => ?_)
     refine sr mixed [v1 7 (fun v0 => box (rSX_check.cs (SX_check.mk none)) v0),v1 7 (fun v0 => box (rSX_check.cs (SX_check.mk (fChecks (t67).Kind))) v0)] hst (fun _ => .u [0] rfl rfl (op_loadG (R := rMapC ents0) (u := ()) glo_has0 tokM0 rfl) <| .o (op_field fld61_3 z2) <| .o (op_loadT (R := rI) (u := (t67).Kind) tok3 z0 rfl) <| .o (op_lookG0 z2 z0) <| .q 0 rfl <| .o (op_extract z0 rfl) <| .o (op_extract z1 rfl) <| .m [] [3] rfl rfl rfl (op_alloc (R := rSX_check) (a := (SX_check.mk none)) tok129 zok129) <| .e [] [3] [4] rfl rfl rfl rfl (op_storeB (R := rSX_check) (a := (SX_check.mk (fChecks (t67).Kind))) tok129 z0 z2 (leb rfl)) <| .o (op_assign z1) <| .n) fun n20 a w hst => ?_
     replace hst : St _ _ _ [_,_,_,_,_,_,_,_,_,_,_,_,_,_,_,_] [_,_,_] _ _ := ((((hst.pick [7,8,9,10,11,12,13,14,15,16,17,18,19,20,21,22]).selA [3,0,1,2] rfl).shareB 0 rfl).add 0 rfl (fun _ _ _ h => h.2)).pick [0,3,4,5,6,7,8,9,10,11,12,13,14,15,16,17]
     refine sr mixed [] hst (fun _ => .q 1 rfl <| .q 0 rfl <| .g rfl rfl (.b 0 rfl) (fun _ => op_move z4) <| .g rfl rfl (.b 1 rfl) (fun hc => op_eql (.cond z0 hc) .k) <| .o (op_and z2 (fun hp => (.cond z0 (beqT hp)))) <| .n) fun n21 a w hst => ?_
     replace hst := hst.to [4,5,7,8,9,10,11,12,13,14,15,16,17,18,19,20] [_,_,_,_,_,_,_,_,_,_,_,_,_,_,_,_] [_,_,_] rfl rfl
     obtain ⟨p226,hp226,h⟩ := bind_some h
     have hJp226 : ∀ a w,St M w0 119 [(13,ti p226),(11,ti s182.1),(62,tsl rSapi_Field (t53).Fields),(63,ti ((t53).Fields.length : Int)),(64,ti s182.1),(10,tptr (rSapi_Kind.cs t53)),(9,ti s33.1),(48,tsl rSapi_Kind (x_).Kinds),(49,ti ((x_).Kinds.length : Int)),(50,ti s33.1),(5,tcloE 63 [tv (n4 0)]),(4,tv (n4 0)),(1,tptr (rSapi_Schema.cs x_))] [glo,box (rVal.cs v198) (n4 0),own rStyping_Problem 119 s182.2 v198] a w → K222 a w := by
      intro a w hst
      refine hK222 _ _ ?_
      try clear hK222 K222
      obtain ⟨t102,ht102,h⟩ := bind_some h
      refine wr mixed [v1 4 (fun v0 => box (rVal.cs v0) (n4 0)),v1 4 (fun v0 => own rStyping_Problem 119 t102 v0)] hst (fun _ => .q 10 rfl <| .q 7 rfl <| .q 3 rfl <| .q 3 rfl <| .e [] [1,2] [3,4] rfl rfl rfl rfl (op_callC call63 (typing_Checkq1_ok ht102) z3 (.cons (.of z2) <| .cons (.of z1) <| .cons (.of .k) <| .cons (.of z0) <| .nil)) <| .n) fun n23 a w hst => ?_
      replace hst := hst.to [7,8,9,10,11,12,13,14,15,16,17] [_,_,_,_,_,_,_,_,_,_,_] [_,_,_] rfl rfl
      refine hK218 _ _ ?_
      try clear hK218 K218
      refine wr mixed [] hst (fun _ => .o (op_add z2 .k) <| .q 0 rfl <| .n) fun n24 a w hst => ?_
      replace hst := hst.to [1,2,3,4,5,6,7,8,9,10,11] [_,_,_,_,_,_,_,_,_,_,_] [_,_,_] rfl rfl
      exact hK215 _ _ _ (sj h).symm ⟨(n23 4),hst.pick [1,2,0,3,4,5,6,7,8,9,10]⟩
     replace h := hp226
     clear hp226
     refine wt hst (fun b228 => ?_) (fun b228 => ?_)
     ·replace h := ite_t b228 h
      obtain ⟨t97,ht97,h⟩ := bind_some h
      refine wr mixed [] hst (fun _ => .o (op_field fld129_0 z1) <| .o (op_loadT (R := rFo128) (u := ((SX_check.mk (fChecks (t67).Kind))).check) tokFo128 z0 rfl) <| .o (op_load tok27 z17) <| .q 12 rfl <| .q 8 rfl <| .o (op_load tok61 z8) <| .p (T := rStyping_spot.ty (Styping_spot.mk x_ s33.1 s182.1 t67)) rfl (op_build Tryz.underlying133 pl133 zv133 zc133 (.cons (R := rSapi_Schema) (u := x_) rfl z3 (leb rfl) <| .cons (R := rI) (u := s33.1) rfl z2 (leb rfl) <| .cons (R := rI) (u := s182.1) rfl z1 (leb rfl) <| .cons (R := rSapi_Field) (u := t67) rfl z0 (leb rfl) <| .nil _)) <| .o (op_callO (u := (Styping_spot.mk x_ s33.1 s182.1 t67)) z5 (.cons (.of z0) <| .nil) ht97) <| .o (op_assign z0) <| .n) fun n22 a w hst => ?_
      replace hst := hst.to [8,12,13,14,15,16,17,18,19,20,21,22,23] [_,_,_,_,_,_,_,_,_,_,_,_,_] [_,_,_] rfl rfl
      obtain rfl := sj h
      exact hJp226 _ _ (hst.pick [0,1,2,3,4,5,6,7,8,9,10,11,12])
     ·replace h := ite_f b228 h
      refine wp_skip ?_
      obtain rfl := sj h
      exact hJp226 _ _ (hst.pick [2,4,5,6,7,8,9,10,11,12,13,14,15])
    ·replace h := ite_f b229 h
     refine wp_exit ?_
     exact hJp213 _ v198 _ _ (ho _ (sj h).symm) (hst.pick [6,7,8,9,10,11])
   ·replace h := ite_f b230 h
    refine wp_exit ?_
    exact hJp148 _ v91 _ _ (ho _ (sj h).symm) (hst.pick [4,5,6])
  refine wp_block ?_
  refine wp_loopK _ (fun (s12 : Int × List Styping_Problem) a w => ∃ v21 : Value,St M w0 119 [(26,tsl rSapi_Life (x_).Lives),(27,ti ((x_).Lives.length : Int)),(28,ti s12.1),(5,tcloE 63 [tv (n4 0)]),(4,tv (n4 0)),(1,tptr (rSapi_Schema.cs x_))] [own rStyping_Problem 119 s12.2 v21,glo,box (rVal.cs v21) (n4 0)] a w) _ _ he13 ⟨nilV,hst.pick [0,1,2,3,4,5]⟩ ?_
  clear h
  intro s12 o a w K231 hI h ho hK231
  obtain ⟨v21,hst⟩ := hI
  refine sr mixed [] hst (fun _ => .o (op_lss z2 z1) <| .n) fun n7 a w hst => ?_
  replace hst := hst.to [0,1,2,3,4,5,6] [_,_,_,_,_,_,_] [_,_,_] rfl rfl
  refine wp_seq_k (fun K233 hK233 => ?_)
  refine wt hst (fun b238 => ?_) (fun b238 => ?_)
  ·replace h := ite_t b238 h
   refine wp_skip ?_
   refine hK233 _ _ ?_
   try clear hK233 K233
   refine wp_seq_k (fun K234 hK234 => ?_)
   refine wp_block ?_
   obtain ⟨t31,ht31,h⟩ := bind_some h
   refine sr mixed [v1 3 (fun v0 => box (rSapi_Life.cs zz2) v0),v1 3 (fun v0 => box (rSapi_Life.cs t31) v0)] hst (fun _ => .q 3 rfl <| .o (op_index ud24 tok81 z2 z4 ht31) <| .o (op_load tok81 z0) <| .m [] [3] rfl rfl rfl (op_alloc (R := rSapi_Life) (a := zz2) tok81 zok81) <| .o (op_assign z3) <| .e [] [3] [4] rfl rfl rfl rfl (op_storeB (R := rSapi_Life) (a := t31) tok81 z1 z2 (leb rfl)) <| .n) fun n8 a w hst => ?_
   replace hst : St _ _ _ [_,_,_,_,_,_,_,_] [_,_,_] _ _ := ((((hst.pick [3,4,6,7,8,9,10,11]).selA [3,0,1,2] rfl).shareB 0 rfl).add 0 rfl (fun _ _ _ h => h.2)).pick [0,3,4,5,6,7,8,9]
   obtain ⟨t36,ht36,h⟩ := bind_some h
   obtain ⟨t38,ht38,h⟩ := bind_some h
   refine sr mixed [] hst (fun _ => .o (op_field fld27_2 z7) <| .o (op_loadT (R := (rSl rSapi_Life)) (u := (x_).Lives) tok24 z0 rfl) <| .q 3 rfl <| .o (op_slice ud24 tok81 z1 (.no _) (.op z0) ht36) <| .o (op_clo (.cons z4 <| .nil)) <| .o (op_callF call64 (slices_ContainsFunc_Life_ok ht38) (.cons (.of z1) <| .cons (.of (Fct.weak z0 (tfn_of call65 (fun _ _ hq => typing_Checkq2_ok hq)))) <| .nil)) <| .o (op_assign z0) <| .n) fun n9 a w hst => ?_
   replace hst := hst.to [6,8,9,10,11,12,13,14] [_,_,_,_,_,_,_,_] [_,_,_] rfl rfl
   obtain ⟨t44,ht44,h⟩ := bind_some h
   obtain ⟨t45,ht45,h⟩ := bind_some h
   refine wr mixed [v1 6 (fun v0 => box (rVal.cs v0) (n4 0)),v1 6 (fun v0 => own rStyping_Problem 119 t45 v0)] hst (fun _ => .q 5 rfl <| .q 2 rfl <| .q 2 rfl <| .p (T := rStyping_fault.ty (Styping_fault.mk t38 (7:Int))) rfl (op_build ud125 pl125 zv125 zc125 (.cons (R := rBool) (u := t38) rfl z0 (leb rfl) <| .cons (R := rI) (u := (7:Int)) rfl .k (leb rfl) <| .nil _)) <| .o (op_buildSl (R := rStyping_fault) (us := [(Styping_fault.mk t38 (7:Int))]) ud166 tok125 (.cons z0 <| .nil _) rfl (leb rfl)) <| .o (op_callF call66 (typing_first_ok ht44) (.cons (.of z0) <| .nil)) <| .e [] [2,0] [3,4] rfl rfl rfl rfl (op_callC call63 (typing_Checkq1_ok ht45) z5 (.cons (.of .k) <| .cons (.of z4) <| .cons (.of .k) <| .cons (.of z0) <| .nil)) <| .n) fun n10 a w hst => ?_
   replace hst := hst.to [9,10,11,12,13,14] [_,_,_,_,_,_] [_,_,_] rfl rfl
   refine hK234 _ _ ?_
   try clear hK234 K234
   refine wr mixed [] hst (fun _ => .o (op_add z2 .k) <| .q 0 rfl <| .n) fun n11 a w hst => ?_
   replace hst := hst.to [1,2,3,4,5,6] [_,_,_,_,_,_] [_,_,_] rfl rfl
   exact hK231 _ _ _ (sj h).symm ⟨(n10 6),(hst.pick [1,2,0,3,4,5]).selA [2,0,1] rfl⟩
  ·replace h := ite_f b238 h
   refine wp_exit ?_
   exact hJp29 _ v21 _ _ (ho _ (sj h).symm) (hst.pick [4,5,6])

/- diorama/counts.wrong -/
noncomputable def fcounts_wrong (x_ : Sapi_Schema) : Option (Int) := (ftyping_Check x_).bind fun t5 => (if (decide ((t5.length : Int) > (0:Int))) = true then (idx t5 (0:Int)).bind fun t10 => (some (t10).Code) else (some (0:Int)))
set_option maxRecDepth 100000 in
set_option maxHeartbeats 4000000 in
theorem counts_wrong_ok {x_ : Sapi_Schema} {r : Int} (h : fcounts_wrong x_ = some r) : FnOk Tryz.prog 36 [rSapi_Schema.ty x_] [glo] (fun _ => []) (fun _ => ti r) := by
 unfold fcounts_wrong at h
 refine FnOk.enter Tryz.func36 rfl Tryz.ntmps36 (leb rfl) (fun M0 M w0 a hpl hst => ?_)
 replace hst : St M w0 13 [(0,rSapi_Schema.ty x_)] [glo] a w0 := hst
 refine sr mixed [] hst (fun _ => .o (op_boxR (R := rSapi_Schema) (u := x_) z0) <| .o (op_assign .k) <| .n) fun n0 a w hst => ?_
 replace hst := hst.to [0] [_] [_] rfl rfl
 refine wp_seq_k (fun K2 hK2 => ?_)
 obtain ⟨t5,ht5,h⟩ := bind_some h
 refine sr mixed [] hst (fun _ => .o (op_load tok27 z0) <| .u [0] rfl rfl ((op_callF call30 (typing_Check_ok ht5) (.cons (.of z0) <| .nil)).glo) <| .o (op_assign z0) <| .n) fun n1 a w hst => ?_
 replace hst := hst.to [2] [_] [_] rfl rfl
 refine sr mixed [] hst (fun _ => .q 0 rfl <| .o (op_len ud68 z0) <| .o (op_gtr z0 .k) <| .n) fun n2 a w hst => ?_
 replace hst := hst.to [2,3] [_,_] [_] rfl rfl
 refine wt hst (fun b7 => ?_) (fun b7 => ?_)
 ·replace h := ite_t b7 h
  obtain ⟨t10,ht10,h⟩ := bind_some h
  refine sr mixed [] hst (fun _ => .q 1 rfl <| .o (op_index ud68 tok119 z0 .k ht10) <| .o (op_field fld119_3 z0) <| .o (op_loadT (R := rI) (u := (t10).Code) tok33 z0 rfl) <| .o (op_assign z0) <| .n) fun n3 a w hst => ?_
  replace hst := hst.to [4] [_] [_] rfl rfl
  refine wp_ret ?_
  obtain rfl := sj h
  exact ret_st undef [] hpl hst rfl (.tmp z0 .nil) rfl rfl rfl
 ·replace h := ite_f b7 h
  refine wp_skip ?_
  refine hK2 _ _ ?_
  try clear hK2 K2
  refine sr mixed [] hst (fun _ => .o (op_assign .k) <| .n) fun n4 a w hst => ?_
  replace hst := hst.to [0] [_] [_] rfl rfl
  refine wp_ret ?_
  obtain rfl := sj h
  exact ret_st undef [] hpl hst rfl (.tmp z0 .nil) rfl rfl rfl

/- diorama/counts.Limits$1 -/
noncomputable def fcounts_Limitsq1 (name_ : Str) (a_ : Int) (b_ : Int) (lo_ : Int) (hi_ : Int) (c0_ : (List Scounts_Limit)) (c1_ : (List Str)) : Option ((List Scounts_Limit) × (List Str)) := (rm (c0_.length + [(Scounts_Limit.mk a_ b_ lo_ true),(Scounts_Limit.mk a_ b_ hi_ false)].length)).bind fun _ => (cat (name_.length + ([32,108,101,97,115,116] : Str).length)).bind fun _ => (cat (name_.length + ([32,109,111,115,116] : Str).length)).bind fun _ => (rm (c1_.length + [(name_ ++ ([32,108,101,97,115,116] : Str)),(name_ ++ ([32,109,111,115,116] : Str))].length)).bind fun _ => (some ((c0_ ++ [(Scounts_Limit.mk a_ b_ lo_ true),(Scounts_Limit.mk a_ b_ hi_ false)]),(c1_ ++ [(name_ ++ ([32,108,101,97,115,116] : Str)),(name_ ++ ([32,109,111,115,116] : Str))])))
set_option maxRecDepth 100000 in
set_option maxHeartbeats 4000000 in
theorem counts_Limitsq1_ok {q5 : Value} {vh5 : Value} {q6 : Value} {vh6 : Value} {name_ : Str} {a_ : Int} {b_ : Int} {lo_ : Int} {hi_ : Int} {c0_ : (List Scounts_Limit)} {c1_ : (List Str)} {r : (List Scounts_Limit) × (List Str)} (h : fcounts_Limitsq1 name_ a_ b_ lo_ hi_ c0_ c1_ = some r) : FnOk Tryz.prog 37 [tv (.string (sB name_)),ti a_,ti b_,ti lo_,ti hi_,tv q5,tv q6] [box (rVal.cs vh5) q5,own rScounts_Limit 43 c0_ vh5,box (rVal.cs vh6) q6,own rS 9 c1_ vh6] (fun v => [box (rVal.cs (gh v 0)) q5,own rScounts_Limit 43 r.1 (gh v 0),box (rVal.cs (gh v 1)) q6,own rS 9 r.2 (gh v 1)]) (fun _ => ttup []) := by
 unfold fcounts_Limitsq1 at h
 refine FnOk.enter Tryz.func37 rfl Tryz.ntmps37 (leb rfl) (fun M0 M w0 a hpl hst => ?_)
 replace hst : St M w0 30 [(0,tv (.string (sB name_))),(1,ti a_),(2,ti b_),(3,ti lo_),(4,ti hi_),(5,tv q5),(6,tv q6)] [box (rVal.cs vh5) q5,own rScounts_Limit 43 c0_ vh5,box (rVal.cs vh6) q6,own rS 9 c1_ vh6] a w0 := hst
 refine wp_seq_k (fun K5 hK5 => ?_)
 obtain ⟨u22,hu22,h⟩ := bind_some h
 refine wr mixed [v1 10 (fun v0 => own rScounts_Limit 43 (c0_ ++ [(Scounts_Limit.mk a_ b_ lo_ true),(Scounts_Limit.mk a_ b_ hi_ false)]) v0),v1 10 (fun v0 => box (rVal.cs v0) q5)] hst (fun _ => .u [0] rfl rfl (op_loadBV tokV31 z5) <| .q 2 rfl <| .q 4 rfl <| .q 6 rfl <| .p (T := rScounts_Limit.ty (Scounts_Limit.mk a_ b_ lo_ true)) rfl (op_build Tryz.underlying43 pl43 zv43 zc43 (.cons (R := rI) (u := a_) rfl z2 (leb rfl) <| .cons (R := rI) (u := b_) rfl z1 (leb rfl) <| .cons (R := rI) (u := lo_) rfl z0 (leb rfl) <| .cons (R := rBool) (u := true) rfl .k (leb rfl) <| .nil _)) <| .q 6 rfl <| .q 8 rfl <| .q 11 rfl <| .p (T := rScounts_Limit.ty (Scounts_Limit.mk a_ b_ hi_ false)) rfl (op_build Tryz.underlying43 pl43 zv43 zc43 (.cons (R := rI) (u := a_) rfl z2 (leb rfl) <| .cons (R := rI) (u := b_) rfl z1 (leb rfl) <| .cons (R := rI) (u := hi_) rfl z0 (leb rfl) <| .cons (R := rBool) (u := false) rfl .k (leb rfl) <| .nil _)) <| .o (op_buildSl (R := rScounts_Limit) (us := [(Scounts_Limit.mk a_ b_ lo_ true),(Scounts_Limit.mk a_ b_ hi_ false)]) ud31 tok43 (.cons z4 <| .cons z0 <| .nil _) rfl (leb rfl)) <| .e [] [1] [4] rfl rfl rfl rfl (op_append (R := rScounts_Limit) ud31 tok43 (leb rfl) z9 z0 hu22) <| .e [4] [0] [5] rfl rfl rfl rfl (op_storeBV2 (R := rScounts_Limit) (e := 43) (Ts := (rVal.cs vh5)) tokV31 z16 z0 (leb rfl)) <| .n) fun n0 a w hst => ?_
 replace hst := hst.to [10,11,16,17] [_,_,_,_] [_,_,_,_] rfl rfl
 refine hK5 _ _ ?_
 try clear hK5 K5
 obtain ⟨u25,hu25,h⟩ := bind_some h
 obtain ⟨u27,hu27,h⟩ := bind_some h
 obtain ⟨u29,hu29,h⟩ := bind_some h
 refine wr mixed [v1 6 (fun v0 => own rS 9 (c1_ ++ [(name_ ++ ([32,108,101,97,115,116] : Str)),(name_ ++ ([32,109,111,115,116] : Str))]) v0),v1 6 (fun v0 => box (rVal.cs v0) q6)] hst (fun _ => .u [0] rfl rfl (op_loadBV tokV32 z3) <| .q 2 rfl <| .o (op_addS z0 .k hu25) <| .q 4 rfl <| .o (op_addS z0 .k hu27) <| .o (op_buildSl (R := rS) (us := [(name_ ++ ([32,108,101,97,115,116] : Str)),(name_ ++ ([32,109,111,115,116] : Str))]) ud32 tok9 (.cons z2 <| .cons z0 <| .nil _) rfl (leb rfl)) <| .e [] [1] [4] rfl rfl rfl rfl (op_append (R := rS) ud32 tok9 (leb rfl) z5 z0 hu29) <| .e [4] [0] [5] rfl rfl rfl rfl (op_storeBV2 (R := rS) (e := 9) (Ts := (rVal.cs vh6)) tokV32 z10 z0 (leb rfl)) <| .n) fun n1 a w hst => ?_
 replace hst := hst.to [6,7,9,10] [_,_,_,_] [_,_,_,_] rfl rfl
 obtain rfl := sj h
 exact ret_stN (.tuple #[(n0 10),(n1 6)]) [1,0,3,2] hpl hst rfl .nil rfl rfl rfl

/- diorama/counts.Limits -/
noncomputable def fcounts_Limits (x_ : Sapi_Schema) : Option ((List Scounts_Limit) × (List Str) × Int) := (fcounts_wrong x_).bind fun t14 => (if (t14 != (0:Int)) = true then (some (([] : List Scounts_Limit),([] : List Str),t14)) else (tailrec (fun (s15 : Int × List Str × List Scounts_Limit) => ((if (decide (s15.1 < ((x_).Kinds.length : Int))) = true then (idx (x_).Kinds s15.1).bind fun t25 => (fcounts_Limitsq1 (t25).Name s15.1 (-1:Int) (t25).Lo (t25).Hi s15.2.2 s15.2.1).bind fun t35 => (tailrec (fun (s135 : Int × List Scounts_Limit × List Str) => ((if (decide (s135.1 < ((t25).Fields.length : Int))) = true then (idx (t25).Fields s135.1).bind fun t41 => ((if ((t41).Kind == (1:Int)) = true then (cat ((t25).Name.length + ([46] : Str).length)).bind fun _ => (cat (((t25).Name ++ ([46] : Str)).length + (t41).Name.length)).bind fun _ => (ftyping_Kind x_ (t41).Of).bind fun t57 => (fcounts_Limitsq1 (((t25).Name ++ ([46] : Str)) ++ (t41).Name) s15.1 t57 (t41).Lo (t41).Hi s135.2.1 s135.2.2).bind fun t62 => (some (t62.1,t62.2)) else (some (s135.2.1,s135.2.2)))).bind fun (p173 : List Scounts_Limit × List Str) => (some (.inl ((IntKind.i64.wrap (s135.1 + (1:Int))),p173.1,p173.2))) else (some (.inr (s135.2.1,s135.2.2)))) : Option ((Int × List Scounts_Limit × List Str) ⊕ ((List Scounts_Limit × List Str))))) ((0:Int),t35.1,t35.2)).bind fun (p163 : (List Scounts_Limit × List Str)) => (some (.inl ((IntKind.i64.wrap (s15.1 + (1:Int))),p163.2,p163.1))) else (some (.inr (s15.2.1,s15.2.2)))) : Option ((Int × List Str × List Scounts_Limit) ⊕ ((List Str × List Scounts_Limit))))) ((0:Int),([] : List Str),([] : List Scounts_Limit))).bind fun (p123 : (List Str × List Scounts_Limit)) => (some (p123.2,p123.1,(0:Int))))
set_option maxRecDepth 100000 in
set_option maxHeartbeats 4000000 in
theorem counts_Limits_ok {x_ : Sapi_Schema} {r : (List Scounts_Limit) × (List Str) × Int} (h : fcounts_Limits x_ = some r) : FnOk Tryz.prog 12 [rSapi_Schema.ty x_] [glo] (fun _ => []) (fun _ => ttup [tsl rScounts_Limit r.1,tsl rS r.2.1,ti r.2.2]) := by
 unfold fcounts_Limits at h
 refine FnOk.enter Tryz.func12 rfl Tryz.ntmps12 (leb rfl) (fun M0 M w0 a hpl hst => ?_)
 replace hst : St M w0 67 [(0,rSapi_Schema.ty x_)] [glo] a w0 := hst
 refine sr mixed [] hst (fun _ => .o (op_boxR (R := rSapi_Schema) (u := x_) z0) <| .o (op_assign (.nilsl (R := rScounts_Limit))) <| .o (op_assign (.nilsl (R := rS))) <| .o (op_assign .k) <| .n) fun n0 a w hst => ?_
 replace hst := hst.to [0] [_] [_] rfl rfl
 refine wp_seq_k (fun K2 hK2 => ?_)
 obtain ⟨t14,ht14,h⟩ := bind_some h
 refine sr mixed [] hst (fun _ => .o (op_load tok27 z0) <| .u [0] rfl rfl ((op_callF call36 (counts_wrong_ok ht14) (.cons (.of z0) <| .nil)).glo) <| .o (op_assign z0) <| .n) fun n1 a w hst => ?_
 replace hst := hst.to [2,3] [_,_] [_] rfl rfl
 refine sr mixed [] hst (fun _ => .q 0 rfl <| .o (op_neq z0 .k) <| .n) fun n2 a w hst => ?_
 replace hst := hst.to [1,2,3] [_,_,_] [_] rfl rfl
 refine wt hst (fun b180 => ?_) (fun b180 => ?_)
 ·replace h := ite_t b180 h
  refine sr mixed [] hst (fun _ => .q 1 rfl <| .o (op_assign (.nilsl (R := rScounts_Limit))) <| .o (op_assign (.nilsl (R := rS))) <| .o (op_assign z2) <| .n) fun n3 a w hst => ?_
  replace hst := hst.to [1,2,3] [_,_,_] [_] rfl rfl
  refine wp_ret ?_
  obtain rfl := sj h
  exact ret_st undef [] hpl hst rfl (.tmp z0 (.tmp z1 (.tmp z2 .nil))) rfl rfl rfl
 ·replace h := ite_f b180 h
  refine wp_skip ?_
  refine hK2 _ _ ?_
  try clear hK2 K2
  refine sr mixed [v1 0 (fun v0 => box (rVal.cs nilV) v0)] hst (fun _ => .m [] [1] rfl rfl rfl (op_allocV tokV31) <| .n) fun n4 a w hst => ?_
  replace hst : St _ _ _ [_,_] [_,_,_] _ _ := (hst.pick [0,3]).nil (rScounts_Limit) 43
  refine sr mixed [v1 0 (fun v0 => box (rVal.cs nilV) v0)] hst (fun _ => .m [] [3] rfl rfl rfl (op_allocV tokV32) <| .n) fun n5 a w hst => ?_
  replace hst : St _ _ _ [_,_,_] [_,_,_,_,_] _ _ := (hst.pick [0,1,2]).nil (rS) 9
  refine sr mixed [] hst (fun _ => .o (op_clo (.cons z1 <| .cons z0 <| .nil)) <| .o (op_assign z0) <| .n) fun n6 a w hst => ?_
  replace hst := hst.to [1,2,3,4] [_,_,_,_] [_,_,_,_,_] rfl rfl
  refine wp_seq_k (fun K13 hK13 => ?_)
  refine sr mixed [] hst (fun _ => .o (op_field fld27_1 z3) <| .o (op_loadT (R := (rSl rSapi_Kind)) (u := (x_).Kinds) tok23 z0 rfl) <| .o (op_len ud23 z0) <| .o (op_move .k) <| .n) fun n7 a w hst => ?_
  replace hst := hst.to [1,2,3,4,5,6,7] [_,_,_,_,_,_,_] [_,_,_,_,_] rfl rfl
  obtain ⟨e16,he16,h⟩ := bind_some h
  have hJp123 : ∀ (p123 : List Str × List Scounts_Limit) (v124 : Value) (v125 : Value) a w,p123 = e16 → St M w0 67 [(7,tv (n5 0)),(6,tv (n4 0))] [own rS 9 p123.1 v124,own rScounts_Limit 43 p123.2 v125,glo,box (rVal.cs v125) (n4 0),box (rVal.cs v124) (n5 0)] a w → K13 a w := by
   intro p123 v124 v125 a w he hst
   subst he
   refine hK13 _ _ ?_
   try clear hK13 K13
   refine sr mixed [] hst (fun _ => .u [3] rfl rfl (op_loadBV tokV31 z1) <| .u [4] rfl rfl (op_loadBV tokV32 z1) <| .o (op_assign z1) <| .o (op_assign z1) <| .o (op_assign .k) <| .n) fun n18 a w hst => ?_
   replace hst : St _ _ _ [_,_,_,_,_] [_,_,_] _ _ := (hst.pick [0,1,2,3,4]).selA [0,1,2] rfl
   refine wp_ret ?_
   replace hst : St _ _ _ [_,_,_,_] [_,_] _ _ := ((hst.selA [1,0,2] rfl).shareO 2 rfl).pick [0,2,4,5]
   replace hst : St _ _ _ [_,_,_] [_] _ _ := (hst.shareO 2 rfl).pick [0,1,4]
   obtain rfl := sj h
   exact ret_st undef [] hpl hst rfl (.tmp z1 (.tmp z0 (.tmp z2 .nil))) rfl rfl rfl
  refine wp_block ?_
  refine wp_loopK _ (fun (s15 : Int × List Str × List Scounts_Limit) a w => ∃ v69 : Value,∃ v70 : Value,St M w0 67 [(20,tsl rSapi_Kind (x_).Kinds),(21,ti ((x_).Kinds.length : Int)),(22,ti s15.1),(8,tcloE 37 [tv (n4 0),tv (n5 0)]),(7,tv (n5 0)),(6,tv (n4 0)),(1,tptr (rSapi_Schema.cs x_))] [own rS 9 s15.2.1 v69,own rScounts_Limit 43 s15.2.2 v70,glo,box (rVal.cs v70) (n4 0),box (rVal.cs v69) (n5 0)] a w) _ _ he16 ⟨nilV,nilV,hst.pick [0,1,2,3,4,5,6]⟩ ?_
  clear h
  intro s15 o a w K127 hI h ho hK127
  obtain ⟨v69,v70,hst⟩ := hI
  refine sr mixed [] hst (fun _ => .o (op_lss z2 z1) <| .n) fun n8 a w hst => ?_
  replace hst := hst.to [0,1,2,3,4,5,6,7] [_,_,_,_,_,_,_,_] [_,_,_,_,_] rfl rfl
  refine wp_seq_k (fun K129 hK129 => ?_)
  refine wt hst (fun b179 => ?_) (fun b179 => ?_)
  ·replace h := ite_t b179 h
   refine wp_skip ?_
   refine hK129 _ _ ?_
   try clear hK129 K129
   refine wp_seq_k (fun K130 hK130 => ?_)
   refine wp_block ?_
   obtain ⟨t25,ht25,h⟩ := bind_some h
   refine sr mixed [v1 3 (fun v0 => box (rSapi_Kind.cs zz1) v0),v1 3 (fun v0 => box (rSapi_Kind.cs t25) v0)] hst (fun _ => .q 3 rfl <| .o (op_index ud23 tok55 z2 z4 ht25) <| .o (op_load tok55 z0) <| .m [] [5] rfl rfl rfl (op_alloc (R := rSapi_Kind) (a := zz1) tok55 zok55) <| .o (op_assign z3) <| .e [] [5] [6] rfl rfl rfl rfl (op_storeB (R := rSapi_Kind) (a := t25) tok55 z1 z2 (leb rfl)) <| .n) fun n9 a w hst => ?_
   replace hst : St _ _ _ [_,_,_,_,_,_,_,_,_] [_,_,_,_,_] _ _ := ((((hst.pick [3,4,6,7,8,9,10,11,12]).selA [5,0,1,2,3,4] rfl).shareB 0 rfl).add 0 rfl (fun _ _ _ h => h.2)).pick [0,3,4,5,6,7,8,9,10]
   obtain ⟨t35,ht35,h⟩ := bind_some h
   refine sr mixed [v1 8 (fun v0 => box (rVal.cs (gh v0 0)) (n4 0)),v1 8 (fun v0 => own rScounts_Limit 43 t35.1 (gh v0 0)),v1 8 (fun v0 => box (rVal.cs (gh v0 1)) (n5 0)),v1 8 (fun v0 => own rS 9 t35.2 (gh v0 1))] hst (fun _ => .q 5 rfl <| .o (op_field fld55_0 z1) <| .o (op_loadT (R := rS) (u := (t25).Name) tok9 z0 rfl) <| .q 4 rfl <| .o (op_field fld55_1 z4) <| .o (op_loadT (R := rI) (u := (t25).Lo) tok3 z0 rfl) <| .o (op_field fld55_2 z6) <| .o (op_loadT (R := rI) (u := (t25).Hi) tok3 z0 rfl) <| .e [] [3,1,4,0] [5,6,7,8] rfl rfl rfl rfl (op_callC call37 (counts_Limitsq1_ok ht35) z7 (.cons (.of z5) <| .cons (.of z4) <| .cons (.of .k) <| .cons (.of z2) <| .cons (.of z0) <| .nil)) <| .n) fun n10 a w hst => ?_
   replace hst := hst.to [9,10,11,12,13,14,15,16,17] [_,_,_,_,_,_,_,_,_] [_,_,_,_,_] rfl rfl
   refine sr mixed [] hst (fun _ => .o (op_field fld55_3 z0) <| .o (op_loadT (R := (rSl rSapi_Field)) (u := (t25).Fields) tok53 z0 rfl) <| .o (op_len ud53 z0) <| .o (op_move .k) <| .n) fun n11 a w hst => ?_
   replace hst := hst.to [1,2,3,4,5,6,7,8,9,10,11,12] [_,_,_,_,_,_,_,_,_,_,_,_] [_,_,_,_,_] rfl rfl
   obtain ⟨e136,he136,h⟩ := bind_some h
   have hJp163 : ∀ (p163 : List Scounts_Limit × List Str) (v164 : Value) (v165 : Value) a w,p163 = e136 → St M w0 67 [(20,tsl rSapi_Kind (x_).Kinds),(21,ti ((x_).Kinds.length : Int)),(22,ti s15.1),(8,tcloE 37 [tv (n4 0),tv (n5 0)]),(7,tv (n5 0)),(6,tv (n4 0)),(1,tptr (rSapi_Schema.cs x_))] [glo,box (rVal.cs v164) (n4 0),own rScounts_Limit 43 p163.1 v164,box (rVal.cs v165) (n5 0),own rS 9 p163.2 v165] a w → K130 a w := by
    intro p163 v164 v165 a w he hst
    subst he
    refine hK130 _ _ ?_
    try clear hK130 K130
    refine wr mixed [] hst (fun _ => .o (op_add z2 .k) <| .q 0 rfl <| .n) fun n17 a w hst => ?_
    replace hst := hst.to [1,2,3,4,5,6,7] [_,_,_,_,_,_,_] [_,_,_,_,_] rfl rfl
    exact hK127 _ _ _ (sj h).symm ⟨v165,v164,(hst.pick [1,2,0,3,4,5,6]).selA [4,2,0,1,3] rfl⟩
   refine wp_block ?_
   refine wp_loopK _ (fun (s135 : Int × List Scounts_Limit × List Str) a w => ∃ v149 : Value,∃ v150 : Value,St M w0 67 [(37,tsl rSapi_Field (t25).Fields),(38,ti ((t25).Fields.length : Int)),(39,ti s135.1),(10,tptr (rSapi_Kind.cs t25)),(9,ti s15.1),(20,tsl rSapi_Kind (x_).Kinds),(21,ti ((x_).Kinds.length : Int)),(22,ti s15.1),(8,tcloE 37 [tv (n4 0),tv (n5 0)]),(7,tv (n5 0)),(6,tv (n4 0)),(1,tptr (rSapi_Schema.cs x_))] [glo,box (rVal.cs v149) (n4 0),own rScounts_Limit 43 s135.2.1 v149,box (rVal.cs v150) (n5 0),own rS 9 s135.2.2 v150] a w) _ _ he136 ⟨(gh (n10 8) 0),(gh (n10 8) 1),hst.pick [0,1,2,3,4,5,6,7,8,9,10,11]⟩ ?_
   clear h
   intro s135 o a w K166 hI h ho hK166
   obtain ⟨v149,v150,hst⟩ := hI
   refine sr mixed [] hst (fun _ => .o (op_lss z2 z1) <| .n) fun n12 a w hst => ?_
   replace hst := hst.to [0,1,2,3,4,5,6,7,8,9,10,11,12] [_,_,_,_,_,_,_,_,_,_,_,_,_] [_,_,_,_,_] rfl rfl
   refine wp_seq_k (fun K168 hK168 => ?_)
   refine wt hst (fun b178 => ?_) (fun b178 => ?_)
   ·replace h := ite_t b178 h
    refine wp_skip ?_
    refine hK168 _ _ ?_
    try clear hK168 K168
    refine wp_seq_k (fun K169 hK169 => ?_)
    refine wp_block ?_
    obtain ⟨t41,ht41,h⟩ := bind_some h
    refine sr mixed [v1 2 (fun v0 => box (rSapi_Field.cs zz0) v0),v1 2 (fun v0 => box (rSapi_Field.cs t41) v0)] hst (fun _ => .o (op_index ud53 tok61 z1 z3 ht41) <| .o (op_load tok61 z0) <| .m [] [5] rfl rfl rfl (op_alloc (R := rSapi_Field) (a := zz0) tok61 zok61) <| .e [] [5] [6] rfl rfl rfl rfl (op_storeB (R := rSapi_Field) (a := t41) tok61 z0 z1 (leb rfl)) <| .n) fun n13 a w hst => ?_
    replace hst : St _ _ _ [_,_,_,_,_,_,_,_,_,_,_,_,_] [_,_,_,_,_] _ _ := ((((hst.pick [2,4,5,6,7,8,9,10,11,12,13,14,15]).selA [5,0,1,2,3,4] rfl).shareB 0 rfl).add 0 rfl (fun _ _ _ h => h.2)).pick [0,3,4,5,6,7,8,9,10,11,12,13,14]
    refine sr mixed [] hst (fun _ => .o (op_field fld61_3 z0) <| .o (op_loadT (R := rI) (u := (t41).Kind) tok3 z0 rfl) <| .o (op_eql z0 .k) <| .n) fun n14 a w hst => ?_
    replace hst := hst.to [2,3,4,5,6,7,8,9,10,11,12,13,14,15] [_,_,_,_,_,_,_,_,_,_,_,_,_,_] [_,_,_,_,_] rfl rfl
    obtain ⟨p173,hp173,h⟩ := bind_some h
    have hJp173 : ∀ (v175 : Value) (v176 : Value) a w,St M w0 67 [(37,tsl rSapi_Field (t25).Fields),(38,ti ((t25).Fields.length : Int)),(39,ti s135.1),(10,tptr (rSapi_Kind.cs t25)),(9,ti s15.1),(20,tsl rSapi_Kind (x_).Kinds),(21,ti ((x_).Kinds.length : Int)),(22,ti s15.1),(8,tcloE 37 [tv (n4 0),tv (n5 0)]),(7,tv (n5 0)),(6,tv (n4 0)),(1,tptr (rSapi_Schema.cs x_))] [glo,box (rVal.cs v175) (n4 0),own rScounts_Limit 43 p173.1 v175,box (rVal.cs v176) (n5 0),own rS 9 p173.2 v176] a w → K169 a w := by
     intro v175 v176 a w hst
     refine hK169 _ _ ?_
     try clear hK169 K169
     refine wr mixed [] hst (fun _ => .o (op_add z2 .k) <| .q 0 rfl <| .n) fun n16 a w hst => ?_
     replace hst := hst.to [1,2,3,4,5,6,7,8,9,10,11,12] [_,_,_,_,_,_,_,_,_,_,_,_] [_,_,_,_,_] rfl rfl
     exact hK166 _ _ _ (sj h).symm ⟨v175,v176,hst.pick [1,2,0,3,4,5,6,7,8,9,10,11]⟩
    replace h := hp173
    clear hp173
    refine wt hst (fun b177 => ?_) (fun b177 => ?_)
    ·replace h := ite_t b177 h
     obtain ⟨u49,hu49,h⟩ := bind_some h
     obtain ⟨u52,hu52,h⟩ := bind_some h
     obtain ⟨t57,ht57,h⟩ := bind_some h
     obtain ⟨t62,ht62,h⟩ := bind_some h
     refine wr mixed [v1 16 (fun v0 => box (rVal.cs (gh v0 0)) (n4 0)),v1 16 (fun v0 => own rScounts_Limit 43 t62.1 (gh v0 0)),v1 16 (fun v0 => box (rVal.cs (gh v0 1)) (n5 0)),v1 16 (fun v0 => own rS 9 t62.2 (gh v0 1))] hst (fun _ => .q 10 rfl <| .o (op_field fld55_0 z6) <| .o (op_loadT (R := rS) (u := (t25).Name) tok9 z0 rfl) <| .o (op_addS z0 .k hu49) <| .o (op_field fld61_0 z5) <| .o (op_loadT (R := rS) (u := (t41).Name) tok9 z0 rfl) <| .o (op_addS z2 z0 hu52) <| .q 13 rfl <| .o (op_load tok27 z21) <| .o (op_field fld61_1 z10) <| .o (op_loadT (R := rS) (u := (t41).Of) tok9 z0 rfl) <| .o (op_callF call38 (typing_Kind_ok ht57) (.cons (.of z2) <| .cons (.of z0) <| .nil)) <| .o (op_field fld61_4 z13) <| .o (op_loadT (R := rI) (u := (t41).Lo) tok3 z0 rfl) <| .o (op_field fld61_5 z15) <| .o (op_loadT (R := rI) (u := (t41).Hi) tok3 z0 rfl) <| .e [] [1,2,3,4] [5,6,7,8] rfl rfl rfl rfl (op_callC call37 (counts_Limitsq1_ok ht62) z15 (.cons (.of z9) <| .cons (.of z8) <| .cons (.of z4) <| .cons (.of z2) <| .cons (.of z0) <| .nil)) <| .n) fun n15 a w hst => ?_
     replace hst := hst.to [19,20,21,22,23,24,25,26,27,28,29,30] [_,_,_,_,_,_,_,_,_,_,_,_] [_,_,_,_,_] rfl rfl
     obtain rfl := sj h
     exact hJp173 (gh (n15 16) 0) (gh (n15 16) 1) _ _ (hst.pick [0,1,2,3,4,5,6,7,8,9,10,11])
    ·replace h := ite_f b177 h
     refine wp_skip ?_
     obtain rfl := sj h
     exact hJp173 v149 v150 _ _ (hst.pick [2,3,4,5,6,7,8,9,10,11,12,13])
   ·replace h := ite_f b178 h
    refine wp_exit ?_
    exact hJp163 _ v149 v150 _ _ (ho _ (sj h).symm) (hst.pick [6,7,8,9,10,11,12])
  ·replace h := ite_f b179 h
   refine wp_exit ?_
   exact hJp123 _ v69 v70 _ _ (ho _ (sj h).symm) (hst.pick [5,6])

/- slices.IndexFunc[[]int,int] -/
noncomputable def fslices_IndexFunc_int (s_ : (List Int)) (f_ : (Int → Option Bool)) : Option (Int) := (tailrec (fun (s4 : Int) => ((if (decide (s4 < (s_.length : Int))) = true then (idx s_ s4).bind fun t14 => (f_ t14).bind fun t16 => (if t16 = true then (some (.inr (.inr s4))) else (some (.inl (IntKind.i64.wrap (s4 + (1:Int)))))) else (some (.inr (.inl ())))) : Option ((Int) ⊕ ((Unit) ⊕ (Int))))) (0:Int)).bind fun (e5 : (Unit) ⊕ (Int)) => (match e5 with | .inl _ => (some (-1:Int)) | .inr p23 => (some p23))
set_option maxRecDepth 100000 in
set_option maxHeartbeats 4000000 in
theorem slices_IndexFunc_int_ok {s_ : (List Int)} {f_ : (Int → Option Bool)} {r : Int} (h : fslices_IndexFunc_int s_ f_ = some r) : FnOk Tryz.prog 81 [tsl rI s_,rF96.ty f_] [] (fun _ => []) (fun _ => ti r) := by
 unfold fslices_IndexFunc_int at h
 refine FnOk.enter Tryz.func81 rfl Tryz.ntmps81 (leb rfl) (fun M0 M w0 a hpl hst => ?_)
 replace hst : St M w0 19 [(0,tsl rI s_),(1,rF96.ty f_)] [] a w0 := hst
 refine sr mixed [] hst (fun _ => .o (op_assign .k) <| .n) fun n0 a w hst => ?_
 replace hst := hst.to [1,2] [_,_] [] rfl rfl
 refine wp_seq_k (fun K2 hK2 => ?_)
 refine sr mixed [] hst (fun _ => .q 0 rfl <| .o (op_len ud22 z0) <| .o (op_move .k) <| .n) fun n1 a w hst => ?_
 replace hst := hst.to [1,2,3,4] [_,_,_,_] [] rfl rfl
 obtain ⟨e5,he5,h⟩ := bind_some h
 have hJp22 : ∀ (p22 : Unit) a w,(.inl p22) = e5 → St M w0 19 [] [] a w → K2 a w := by
  intro p22 a w he hst
  subst he
  simp only at h
  refine hK2 _ _ ?_
  try clear hK2 K2
  refine sr mixed [] hst (fun _ => .o (op_assign .k) <| .n) fun n7 a w hst => ?_
  replace hst := hst.to [0] [_] [] rfl rfl
  refine wp_ret ?_
  obtain rfl := sj h
  exact ret_st undef [] hpl hst rfl (.tmp z0 .nil) rfl rfl rfl
 have hJp23 : ∀ (p23 : Int) a w,(.inr p23) = e5 → St M w0 19 [(4,ti p23)] [] a w → Ret Tryz.prog Tryz.f81 M0 [] w0 (fun _ => []) (fun _ => ti r) .ret a w := by
  intro p23 a w he hst
  subst he
  simp only at h
  obtain rfl := sj h
  exact ret_st undef [] hpl hst rfl (.tmp z0 .nil) rfl rfl rfl
 refine wp_block ?_
 refine wp_loopK _ (fun (s4 : Int) a w => St M w0 19 [(7,ti (s_.length : Int)),(8,ti s4),(0,tsl rI s_),(1,rF96.ty f_)] [] a w) _ _ he5 (hst.pick [0,1,2,3]) ?_
 clear h
 intro s4 o a w K25 hI h ho hK25
 have hst := hI
 clear hI
 refine sr mixed [] hst (fun _ => .o (op_lss z1 z0) <| .n) fun n2 a w hst => ?_
 replace hst := hst.to [0,1,2,3,4] [_,_,_,_,_] [] rfl rfl
 refine wp_seq_k (fun K27 hK27 => ?_)
 refine wt hst (fun b33 => ?_) (fun b33 => ?_)
 ·replace h := ite_t b33 h
  refine wp_skip ?_
  refine hK27 _ _ ?_
  try clear hK27 K27
  refine wp_seq_k (fun K28 hK28 => ?_)
  refine wp_block ?_
  refine sr mixed [] hst (fun _ => .q 2 rfl <| .o (op_assign z0) <| .n) fun n3 a w hst => ?_
  replace hst := hst.to [1,3,4,5,6] [_,_,_,_,_] [] rfl rfl
  obtain ⟨t14,ht14,h⟩ := bind_some h
  obtain ⟨t16,ht16,h⟩ := bind_some h
  refine sr mixed [] hst (fun _ => .q 4 rfl <| .q 4 rfl <| .q 2 rfl <| .o (op_index ud22 tok3 z1 z0 ht14) <| .o (op_load tok3 z0) <| .o (op_callT (u := t14) z4 (.cons (.of z0) <| .nil) ht16) <| .n) fun n4 a w hst => ?_
  replace hst := hst.to [5,6,7,8,9,10] [_,_,_,_,_,_] [] rfl rfl
  refine wt hst (fun b32 => ?_) (fun b32 => ?_)
  ·replace h := ite_t b32 h
   refine sr mixed [] hst (fun _ => .q 1 rfl <| .o (op_assign z0) <| .n) fun n5 a w hst => ?_
   replace hst := hst.to [1] [_] [] rfl rfl
   refine wp_ret ?_
   exact hJp23 _ _ _ (ho _ (sj h).symm) (hst.pick [0])
  ·replace h := ite_f b32 h
   refine wp_skip ?_
   refine hK28 _ _ ?_
   try clear hK28 K28
   refine wr mixed [] hst (fun _ => .o (op_add z3 .k) <| .q 0 rfl <| .n) fun n6 a w hst => ?_
   replace hst := hst.to [1,4,5,6] [_,_,_,_] [] rfl rfl
   exact hK25 _ _ _ (sj h).symm (hst.pick [1,0,2,3])
 ·replace h := ite_f b33 h
  refine wp_exit ?_
  exact hJp22 _ _ _ (ho _ (sj h).symm) (hst.pick [])

end Go.Proofs.YtcdccjagknlmpaaGreatDoor
