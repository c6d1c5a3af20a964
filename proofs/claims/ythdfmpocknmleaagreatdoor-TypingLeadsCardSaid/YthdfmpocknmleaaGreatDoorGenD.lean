/- Go functions as Lean functions, and the proofs that they compute them, written by a program. No condition. -/
import Derived.Test.YthdfmpocknmleaaGreatDoorGenC
namespace Go.Proofs.YthdfmpocknmleaaGreatDoor
open Go.Sim

/- diorama/dioramaref10.Up -/
noncomputable def fref10_Up (x_ : Sapi_Schema) (kind_ : Int) (field_ : Int) : Option (Int) := (fref10_Has x_ kind_ field_).bind fun t13 => (if (!t13) = true then (some (-1:Int)) else (idx (x_).Kinds kind_).bind fun t18 => (idx (t18).Fields field_).bind fun t22 => (jn (fun (p9 : Sapi_Field) => (if ((p9).Kind != (1:Int)) = true then (some (-1:Int)) else (fref10_Kind x_ (p9).Of).bind fun t62 => (if (decide (t62 ≥ kind_)) = true then (some (-1:Int)) else (some t62)))) fun j16 => (if (((t22).Kind == (7:Int)) || ((t22).Kind == (8:Int))) = true then (idx (x_).Kinds kind_).bind fun t35 => (fref10_Field t35 (t22).Up).bind fun t39 => (if ((decide (t39 < (0:Int))) || (decide (t39 ≥ field_))) = true then (some (-1:Int)) else (idx (x_).Kinds kind_).bind fun t50 => (idx (t50).Fields t39).bind fun t54 => (j16 t54)) else (j16 t22))))
set_option maxRecDepth 100000 in
set_option maxHeartbeats 4000000 in
theorem ref10_Up_ok {x_ : Sapi_Schema} {kind_ : Int} {field_ : Int} {r : Int} (h : fref10_Up x_ kind_ field_ = some r) : FnOk Tryz.prog 16 [rSapi_Schema.ty x_,ti kind_,ti field_] [] (fun _ => []) (fun _ => ti r) := by
 unfold fref10_Up at h
 refine FnOk.enter Tryz.func16 rfl Tryz.ntmps16 (leb rfl) (fun M0 M w0 a hpl hst => ?_)
 replace hst : St M w0 67 [(0,rSapi_Schema.ty x_),(1,ti kind_),(2,ti field_)] [] a w0 := hst
 refine wp_seq_k (fun K1 hK1 => ?_)
 refine wp_reg mixed [] hst (fun _ => .p rfl (op_boxR (R := rSapi_Schema) (u := x_) (.t 0 rfl)) <| .p rfl (op_assign .k) <| .nil _ _) (by kernel_rfl) (fun n0 a w hst => ?_)
 replace hst : St M w0 67 [(3,tptr (rSapi_Schema.cs x_)),(1,ti kind_),(2,ti field_)] [] a w := (hst.pick [0,3,4])
 refine hK1 _ _ ?_
 try clear hK1 K1
 refine wp_seq_k (fun K2 hK2 => ?_)
 refine wp_seq_k (fun K3 hK3 => ?_)
 obtain ⟨t13,ht13,h⟩ := bind_some h
 refine wp_reg mixed [] hst (fun _ => .p rfl (op_load tok34 (.t 0 rfl)) <| .q 2 rfl <| .q 4 rfl <| .p rfl (op_callF call17 (ref10_Has_ok ht13) (.cons (.of (.t 2 rfl)) <| .cons (.of (.t 1 rfl)) <| .cons (.of (.t 0 rfl)) <| .nil)) <| .p rfl (op_not (.t 0 rfl)) <| .nil _ _) (by kernel_rfl) (fun n1 a w hst => ?_)
 replace hst : St M w0 67 [(14,tb (!t13)),(3,tptr (rSapi_Schema.cs x_)),(1,ti kind_),(2,ti field_)] [] a w := (hst.pick [4,5,6,7])
 refine hK3 _ _ ?_
 try clear hK3 K3
 refine wp_test 0 hst rfl (fun b33 => ?_) (fun b33 => ?_)
 ·replace h := ite_t b33 h
  refine wp_seq_k (fun K4 hK4 => ?_)
  refine wp_reg mixed [] hst (fun _ => .p rfl (op_assign .k) <| .nil _ _) (by kernel_rfl) (fun n2 a w hst => ?_)
  replace hst : St M w0 67 [(6,ti (-1:Int))] [] a w := (hst.pick [0])
  refine hK4 _ _ ?_
  try clear hK4 K4
  refine wp_ret ?_
  obtain rfl := sj h
  exact ret_st undef [] hpl hst rfl (.tmp (.t 0 rfl) .nil) rfl rfl rfl
 ·replace h := ite_f b33 h
  refine wp_skip ?_
  refine hK2 _ _ ?_
  try clear hK2 K2
  refine wp_seq_k (fun K5 hK5 => ?_)
  obtain ⟨t18,ht18,h⟩ := bind_some h
  obtain ⟨t22,ht22,h⟩ := bind_some h
  refine wp_reg mixed [v1 9 (fun v0 => box (rSapi_Field.cs (Sapi_Field.mk ([] : Str) ([] : Str) ([] : Str) (0:Int) (0:Int) (0:Int) ([] : (List Str)) ([] : (List Int)))) v0),v1 9 (fun v0 => box (rSapi_Field.cs t22) v0)] hst (fun _ => .p rfl (op_field fld34_1 (.t 1 rfl)) <| .p rfl (op_loadT (R := (rSl rSapi_Kind)) (u := (x_).Kinds) tok30 (.t 0 rfl) rfl) <| .q 4 rfl <| .p rfl (op_index Tryz.underlying30 tok47 (.t 1 rfl) (.t 0 rfl) ht18) <| .p rfl (op_field fld47_3 (.t 0 rfl)) <| .p rfl (op_loadT (R := (rSl rSapi_Field)) (u := (t18).Fields) tok45 (.t 0 rfl) rfl) <| .q 9 rfl <| .p rfl (op_index Tryz.underlying45 tok44 (.t 1 rfl) (.t 0 rfl) ht22) <| .p rfl (op_load tok44 (.t 0 rfl)) <| .m [] [0] rfl rfl rfl (op_alloc (R := rSapi_Field) (a := (Sapi_Field.mk ([] : Str) ([] : Str) ([] : Str) (0:Int) (0:Int) (0:Int) ([] : (List Str)) ([] : (List Int)))) tok44 zok44) <| .e [] [0] [1] rfl rfl rfl rfl (op_storeB (R := rSapi_Field) (a := t22) tok44 (.t 0 rfl) (.t 1 rfl) (leb rfl)) <| .nil _ _) (by kernel_rfl) (fun n3 a w hst => ?_)
  replace hst : St M w0 67 [(7,tv (n3 9)),(3,tptr (rSapi_Schema.cs x_)),(1,ti kind_),(2,ti field_)] [box (rSapi_Field.cs t22) (n3 9)] a w := (hst.pick [9,11,12,13])
  refine hK5 _ _ ?_
  try clear hK5 K5
  refine wp_seq_k (fun K7 hK7 => ?_)
  refine wp_seq_k (fun K8 hK8 => ?_)
  refine wp_reg mixed [] hst (fun _ => .u [0] rfl rfl (op_fieldB fld44_3 (.t 0 rfl)) <| .u [0] rfl rfl (op_loadBf (R := rI) (u := (t22).Kind) tok3 (.t 0 rfl) rfl) <| .p rfl (op_eql (.t 0 rfl) .k) <| .q 0 rfl <| .gu [0] rfl rfl rfl (.b 0 rfl) (fun _ => op_fieldB fld44_3 (.t 4 rfl)) <| .gu [0] rfl rfl rfl (.b 1 rfl) (fun hc => op_loadBf (R := rI) (u := (t22).Kind) tok3 (.cond (.t 0 rfl) hc) rfl) <| .g rfl rfl (.b 2 rfl) (fun hc => op_eql (.cond (.t 0 rfl) hc) .k) <| .p rfl (op_or (.t 3 rfl) (fun hp => (.cond (.t 0 rfl) (beqF hp)))) <| .nil _ _) (by kernel_rfl) (fun n4 a w hst => ?_)
  replace hst : St M w0 67 [(31,tb (((t22).Kind == (7:Int)) || ((t22).Kind == (8:Int)))),(7,tv (n3 9)),(3,tptr (rSapi_Schema.cs x_)),(1,ti kind_),(2,ti field_)] [box (rSapi_Field.cs t22) (n3 9)] a w := (hst.pick [7,8,9,10,11])
  refine hK8 _ _ ?_
  try clear hK8 K8
  obtain ⟨j16,hj16,h⟩ := jn_elim h
  have hJp9 : ∀ (p9 : Sapi_Field) a w,j16 p9 = some r → St M w0 67 [(7,tv (n3 9)),(3,tptr (rSapi_Schema.cs x_)),(1,ti kind_)] [box (rSapi_Field.cs p9) (n3 9)] a w → K7 a w := by
   intro p9 a w h hst
   rw [hj16] at h
   clear hj16
   refine hK7 _ _ ?_
   try clear hK7 K7
   refine wp_seq_k (fun K17 hK17 => ?_)
   refine wp_seq_k (fun K18 hK18 => ?_)
   refine wp_reg mixed [] hst (fun _ => .u [0] rfl rfl (op_fieldB fld44_3 (.t 0 rfl)) <| .u [0] rfl rfl (op_loadBf (R := rI) (u := (p9).Kind) tok3 (.t 0 rfl) rfl) <| .p rfl (op_neq (.t 0 rfl) .k) <| .nil _ _) (by kernel_rfl) (fun n9 a w hst => ?_)
   replace hst : St M w0 67 [(58,tb ((p9).Kind != (1:Int))),(7,tv (n3 9)),(3,tptr (rSapi_Schema.cs x_)),(1,ti kind_)] [box (rSapi_Field.cs p9) (n3 9)] a w := (hst.pick [2,3,4,5])
   refine hK18 _ _ ?_
   try clear hK18 K18
   refine wp_test 0 hst rfl (fun b26 => ?_) (fun b26 => ?_)
   ·replace h := ite_t b26 h
    refine wp_seq_k (fun K19 hK19 => ?_)
    refine wp_reg mixed [] hst (fun _ => .p rfl (op_assign .k) <| .nil _ _) (by kernel_rfl) (fun n10 a w hst => ?_)
    replace hst : St M w0 67 [(6,ti (-1:Int))] [] a w := ((hst.pick [0]).selA [] rfl)
    refine hK19 _ _ ?_
    try clear hK19 K19
    refine wp_ret ?_
    obtain rfl := sj h
    exact ret_st undef [] hpl hst rfl (.tmp (.t 0 rfl) .nil) rfl rfl rfl
   ·replace h := ite_f b26 h
    refine wp_skip ?_
    refine hK17 _ _ ?_
    try clear hK17 K17
    refine wp_seq_k (fun K20 hK20 => ?_)
    obtain ⟨t62,ht62,h⟩ := bind_some h
    refine wp_reg mixed [] hst (fun _ => .p rfl (op_load tok34 (.t 2 rfl)) <| .u [0] rfl rfl (op_fieldB fld44_1 (.t 2 rfl)) <| .u [0] rfl rfl (op_loadBf (R := rS) (u := (p9).Of) tok9 (.t 0 rfl) rfl) <| .p rfl (op_callF call19 (ref10_Kind_ok ht62) (.cons (.of (.t 2 rfl)) <| .cons (.of (.t 0 rfl)) <| .nil)) <| .p rfl (op_assign (.t 0 rfl)) <| .nil _ _) (by kernel_rfl) (fun n11 a w hst => ?_)
    replace hst : St M w0 67 [(9,ti t62),(1,ti kind_)] [] a w := ((hst.pick [4,8]).selA [] rfl)
    refine hK20 _ _ ?_
    try clear hK20 K20
    refine wp_seq_k (fun K21 hK21 => ?_)
    refine wp_seq_k (fun K22 hK22 => ?_)
    refine wp_reg mixed [] hst (fun _ => .q 0 rfl <| .q 2 rfl <| .p rfl (op_geq (.t 1 rfl) (.t 0 rfl)) <| .nil _ _) (by kernel_rfl) (fun n12 a w hst => ?_)
    replace hst : St M w0 67 [(65,tb (decide (t62 ≥ kind_))),(9,ti t62)] [] a w := (hst.pick [2,3])
    refine hK22 _ _ ?_
    try clear hK22 K22
    refine wp_test 0 hst rfl (fun b25 => ?_) (fun b25 => ?_)
    ·replace h := ite_t b25 h
     refine wp_seq_k (fun K23 hK23 => ?_)
     refine wp_reg mixed [] hst (fun _ => .p rfl (op_assign .k) <| .nil _ _) (by kernel_rfl) (fun n13 a w hst => ?_)
     replace hst : St M w0 67 [(6,ti (-1:Int))] [] a w := (hst.pick [0])
     refine hK23 _ _ ?_
     try clear hK23 K23
     refine wp_ret ?_
     obtain rfl := sj h
     exact ret_st undef [] hpl hst rfl (.tmp (.t 0 rfl) .nil) rfl rfl rfl
    ·replace h := ite_f b25 h
     refine wp_skip ?_
     refine hK21 _ _ ?_
     try clear hK21 K21
     refine wp_seq_k (fun K24 hK24 => ?_)
     refine wp_reg mixed [] hst (fun _ => .q 1 rfl <| .p rfl (op_assign (.t 0 rfl)) <| .nil _ _) (by kernel_rfl) (fun n14 a w hst => ?_)
     replace hst : St M w0 67 [(6,ti t62)] [] a w := (hst.pick [1])
     refine hK24 _ _ ?_
     try clear hK24 K24
     refine wp_ret ?_
     obtain rfl := sj h
     exact ret_st undef [] hpl hst rfl (.tmp (.t 0 rfl) .nil) rfl rfl rfl
  clear hj16
  refine wp_test 0 hst rfl (fun b32 => ?_) (fun b32 => ?_)
  ·replace h := ite_t b32 h
   refine wp_seq_k (fun K27 hK27 => ?_)
   obtain ⟨t35,ht35,h⟩ := bind_some h
   obtain ⟨t39,ht39,h⟩ := bind_some h
   refine wp_reg mixed [] hst (fun _ => .p rfl (op_field fld34_1 (.t 2 rfl)) <| .p rfl (op_loadT (R := (rSl rSapi_Kind)) (u := (x_).Kinds) tok30 (.t 0 rfl) rfl) <| .q 5 rfl <| .p rfl (op_index Tryz.underlying30 tok47 (.t 1 rfl) (.t 0 rfl) ht35) <| .p rfl (op_load tok47 (.t 0 rfl)) <| .u [0] rfl rfl (op_fieldB fld44_2 (.t 6 rfl)) <| .u [0] rfl rfl (op_loadBf (R := rS) (u := (t22).Up) tok9 (.t 0 rfl) rfl) <| .p rfl (op_callF call21 (ref10_Field_ok ht39) (.cons (.of (.t 2 rfl)) <| .cons (.of (.t 0 rfl)) <| .nil)) <| .p rfl (op_assign (.t 0 rfl)) <| .nil _ _) (by kernel_rfl) (fun n5 a w hst => ?_)
   replace hst : St M w0 67 [(8,ti t39),(7,tv (n3 9)),(3,tptr (rSapi_Schema.cs x_)),(1,ti kind_),(2,ti field_)] [box (rSapi_Field.cs t22) (n3 9)] a w := (hst.pick [8,10,11,12,13])
   refine hK27 _ _ ?_
   try clear hK27 K27
   refine wp_seq_k (fun K28 hK28 => ?_)
   refine wp_seq_k (fun K29 hK29 => ?_)
   refine wp_reg mixed [] hst (fun _ => .q 0 rfl <| .p rfl (op_lss (.t 0 rfl) .k) <| .q 0 rfl <| .g rfl rfl (.b 0 rfl) (fun _ => op_move (.t 3 rfl)) <| .g rfl rfl (.b 1 rfl) (fun _ => op_move (.t 8 rfl)) <| .g rfl rfl (.b 2 rfl) (fun hc => op_geq (.cond (.t 1 rfl) hc) (.cond (.t 0 rfl) hc)) <| .p rfl (op_or (.t 3 rfl) (fun hp => (.cond (.t 0 rfl) (beqF hp)))) <| .nil _ _) (by kernel_rfl) (fun n6 a w hst => ?_)
   replace hst : St M w0 67 [(46,tb ((decide (t39 < (0:Int))) || (decide (t39 ≥ field_)))),(8,ti t39),(7,tv (n3 9)),(3,tptr (rSapi_Schema.cs x_)),(1,ti kind_)] [box (rSapi_Field.cs t22) (n3 9)] a w := (hst.pick [6,7,8,9,10])
   refine hK29 _ _ ?_
   try clear hK29 K29
   refine wp_test 0 hst rfl (fun b31 => ?_) (fun b31 => ?_)
   ·replace h := ite_t b31 h
    refine wp_seq_k (fun K30 hK30 => ?_)
    refine wp_reg mixed [] hst (fun _ => .p rfl (op_assign .k) <| .nil _ _) (by kernel_rfl) (fun n7 a w hst => ?_)
    replace hst : St M w0 67 [(6,ti (-1:Int))] [] a w := ((hst.pick [0]).selA [] rfl)
    refine hK30 _ _ ?_
    try clear hK30 K30
    refine wp_ret ?_
    obtain rfl := sj h
    exact ret_st undef [] hpl hst rfl (.tmp (.t 0 rfl) .nil) rfl rfl rfl
   ·replace h := ite_f b31 h
    refine wp_skip ?_
    refine hK28 _ _ ?_
    try clear hK28 K28
    obtain ⟨t50,ht50,h⟩ := bind_some h
    obtain ⟨t54,ht54,h⟩ := bind_some h
    refine wp_reg mixed [v0 (box (rSapi_Field.cs t54) (n3 9))] hst (fun _ => .p rfl (op_field fld34_1 (.t 3 rfl)) <| .p rfl (op_loadT (R := (rSl rSapi_Kind)) (u := (x_).Kinds) tok30 (.t 0 rfl) rfl) <| .q 6 rfl <| .p rfl (op_index Tryz.underlying30 tok47 (.t 1 rfl) (.t 0 rfl) ht50) <| .p rfl (op_field fld47_3 (.t 0 rfl)) <| .p rfl (op_loadT (R := (rSl rSapi_Field)) (u := (t50).Fields) tok45 (.t 0 rfl) rfl) <| .q 7 rfl <| .p rfl (op_index Tryz.underlying45 tok44 (.t 1 rfl) (.t 0 rfl) ht54) <| .p rfl (op_load tok44 (.t 0 rfl)) <| .e [] [0] [1] rfl rfl rfl rfl (op_storeB (R := rSapi_Field) (a := t54) tok44 (.t 11 rfl) (.t 0 rfl) (leb rfl)) <| .nil _ _) (by kernel_rfl) (fun n8 a w hst => ?_)
    replace hst : St M w0 67 [(7,tv (n3 9)),(3,tptr (rSapi_Schema.cs x_)),(1,ti kind_)] [box (rSapi_Field.cs t54) (n3 9)] a w := (hst.pick [11,12,13])
    exact hJp9 _ _ _ h (hst.pick [0,1,2])
  ·replace h := ite_f b32 h
   refine wp_skip ?_
   exact hJp9 _ _ _ h (hst.pick [1,2,3])

/- diorama/dioramaref10.Sums -/
noncomputable def fref10_Sums (x_ : Sapi_Schema) (kind_ : Int) (field_ : Int) : Option (Int × (List Int)) := (idx (x_).Kinds kind_).bind fun t16 => (idx (t16).Fields field_).bind fun t20 => (fref10_Kind x_ (t20).Of).bind fun t25 => (if (((t20).Kind != (6:Int)) || (decide (t25 ≤ kind_))) = true then (some ((-1:Int),([] : List Int))) else (idx (x_).Kinds t25).bind fun t37 => (tailrec (fun (s13 : Int × List Int) => ((if (decide (s13.1 < ((t37).Fields.length : Int))) = true then (idx (t37).Fields s13.1).bind fun t48 => (opt (((t48).Kind == (7:Int)) == true) (idx (t37).Fields s13.1) default).bind fun t55 => (opt ((((t48).Kind == (7:Int)) && ((t55).Of == (t20).Name)) == true) (fref10_Up x_ t25 s13.1) default).bind fun t66 => ((if ((((t48).Kind == (7:Int)) && ((t55).Of == (t20).Name)) && (t66 == kind_)) = true then (rm (s13.2.length + [s13.1].length)).bind fun _ => (some (s13.2 ++ [s13.1])) else (some s13.2))).bind fun (p42 : List Int) => (some (.inl ((IntKind.i64.wrap (s13.1 + (1:Int))),p42))) else (some (.inr s13.2))) : Option ((Int × List Int) ⊕ ((List Int))))) ((0:Int),([] : List Int))).bind fun (p34 : (List Int)) => (some (t25,p34)))
set_option maxRecDepth 100000 in
set_option maxHeartbeats 4000000 in
theorem ref10_Sums_ok {x_ : Sapi_Schema} {kind_ : Int} {field_ : Int} {r : Int × (List Int)} (h : fref10_Sums x_ kind_ field_ = some r) : FnOk Tryz.prog 46 [rSapi_Schema.ty x_,ti kind_,ti field_] [] (fun _ => []) (fun _ => ttup [ti r.1,tsl rI r.2]) := by
 unfold fref10_Sums at h
 refine FnOk.enter Tryz.func46 rfl Tryz.ntmps46 (leb rfl) (fun M0 M w0 a hpl hst => ?_)
 replace hst : St M w0 76 [(0,rSapi_Schema.ty x_),(1,ti kind_),(2,ti field_)] [] a w0 := hst
 refine wp_seq_k (fun K1 hK1 => ?_)
 refine wp_reg mixed [] hst (fun _ => .p rfl (op_boxR (R := rSapi_Schema) (u := x_) (.t 0 rfl)) <| .p rfl (op_assign .k) <| .p rfl (op_assign (.nilsl (R := rI))) <| .nil _ _) (by kernel_rfl) (fun n0 a w hst => ?_)
 replace hst : St M w0 76 [(3,tptr (rSapi_Schema.cs x_)),(1,ti kind_),(2,ti field_)] [] a w := (hst.pick [0,4,5])
 refine hK1 _ _ ?_
 try clear hK1 K1
 refine wp_seq_k (fun K2 hK2 => ?_)
 obtain ⟨t16,ht16,h⟩ := bind_some h
 obtain ⟨t20,ht20,h⟩ := bind_some h
 refine wp_reg mixed [v1 9 (fun v0 => box (rSapi_Field.cs (Sapi_Field.mk ([] : Str) ([] : Str) ([] : Str) (0:Int) (0:Int) (0:Int) ([] : (List Str)) ([] : (List Int)))) v0),v1 9 (fun v0 => box (rSapi_Field.cs t20) v0)] hst (fun _ => .p rfl (op_field fld34_1 (.t 0 rfl)) <| .p rfl (op_loadT (R := (rSl rSapi_Kind)) (u := (x_).Kinds) tok30 (.t 0 rfl) rfl) <| .q 3 rfl <| .p rfl (op_index Tryz.underlying30 tok47 (.t 1 rfl) (.t 0 rfl) ht16) <| .p rfl (op_field fld47_3 (.t 0 rfl)) <| .p rfl (op_loadT (R := (rSl rSapi_Field)) (u := (t16).Fields) tok45 (.t 0 rfl) rfl) <| .q 8 rfl <| .p rfl (op_index Tryz.underlying45 tok44 (.t 1 rfl) (.t 0 rfl) ht20) <| .p rfl (op_load tok44 (.t 0 rfl)) <| .m [] [0] rfl rfl rfl (op_alloc (R := rSapi_Field) (a := (Sapi_Field.mk ([] : Str) ([] : Str) ([] : Str) (0:Int) (0:Int) (0:Int) ([] : (List Str)) ([] : (List Int)))) tok44 zok44) <| .e [] [0] [1] rfl rfl rfl rfl (op_storeB (R := rSapi_Field) (a := t20) tok44 (.t 0 rfl) (.t 1 rfl) (leb rfl)) <| .nil _ _) (by kernel_rfl) (fun n1 a w hst => ?_)
 replace hst : St M w0 76 [(8,tptr (rSapi_Field.cs t20)),(3,tptr (rSapi_Schema.cs x_)),(1,ti kind_)] [] a w := ((((hst.pick [9,10,11]).shareB 0 rfl).add 0 rfl (fun _ _ _ h => h.2)).pick [0,3,4])
 refine hK2 _ _ ?_
 try clear hK2 K2
 refine wp_seq_k (fun K4 hK4 => ?_)
 obtain ⟨t25,ht25,h⟩ := bind_some h
 refine wp_reg mixed [] hst (fun _ => .p rfl (op_load tok34 (.t 1 rfl)) <| .p rfl (op_field fld44_1 (.t 1 rfl)) <| .p rfl (op_loadT (R := rS) (u := (t20).Of) tok9 (.t 0 rfl) rfl) <| .p rfl (op_callF call19 (ref10_Kind_ok ht25) (.cons (.of (.t 2 rfl)) <| .cons (.of (.t 0 rfl)) <| .nil)) <| .p rfl (op_assign (.t 0 rfl)) <| .nil _ _) (by kernel_rfl) (fun n2 a w hst => ?_)
 replace hst : St M w0 76 [(9,ti t25),(8,tptr (rSapi_Field.cs t20)),(3,tptr (rSapi_Schema.cs x_)),(1,ti kind_)] [] a w := (hst.pick [4,5,6,7])
 refine hK4 _ _ ?_
 try clear hK4 K4
 refine wp_seq_k (fun K5 hK5 => ?_)
 refine wp_seq_k (fun K6 hK6 => ?_)
 refine wp_reg mixed [] hst (fun _ => .p rfl (op_field fld44_3 (.t 1 rfl)) <| .p rfl (op_loadT (R := rI) (u := (t20).Kind) tok3 (.t 0 rfl) rfl) <| .p rfl (op_neq (.t 0 rfl) .k) <| .q 0 rfl <| .g rfl rfl (.b 0 rfl) (fun _ => op_move (.t 4 rfl)) <| .g rfl rfl (.b 1 rfl) (fun _ => op_move (.t 8 rfl)) <| .g rfl rfl (.b 2 rfl) (fun hc => op_leq (.cond (.t 1 rfl) hc) (.cond (.t 0 rfl) hc)) <| .p rfl (op_or (.t 3 rfl) (fun hp => (.cond (.t 0 rfl) (beqF hp)))) <| .nil _ _) (by kernel_rfl) (fun n3 a w hst => ?_)
 replace hst : St M w0 76 [(33,tb (((t20).Kind != (6:Int)) || (decide (t25 ≤ kind_)))),(9,ti t25),(8,tptr (rSapi_Field.cs t20)),(3,tptr (rSapi_Schema.cs x_)),(1,ti kind_)] [] a w := (hst.pick [7,8,9,10,11])
 refine hK6 _ _ ?_
 try clear hK6 K6
 refine wp_test 0 hst rfl (fun b47 => ?_) (fun b47 => ?_)
 ·replace h := ite_t b47 h
  refine wp_seq_k (fun K7 hK7 => ?_)
  refine wp_reg mixed [] hst (fun _ => .p rfl (op_assign .k) <| .p rfl (op_assign (.nilsl (R := rI))) <| .nil _ _) (by kernel_rfl) (fun n4 a w hst => ?_)
  replace hst : St M w0 76 [(6,ti (-1:Int)),(7,tsl rI ([] : List Int))] [] a w := (hst.pick [0,1])
  refine hK7 _ _ ?_
  try clear hK7 K7
  refine wp_ret ?_
  obtain rfl := sj h
  exact ret_st undef [] hpl hst rfl (.tmp (.t 0 rfl) (.tmp (.t 1 rfl) .nil)) rfl rfl rfl
 ·replace h := ite_f b47 h
  refine wp_skip ?_
  refine hK5 _ _ ?_
  try clear hK5 K5
  refine wp_seq_k (fun K8 hK8 => ?_)
  refine wp_reg mixed [] hst (fun _ => .p rfl (op_assign .k) <| .nil _ _) (by kernel_rfl) (fun n5 a w hst => ?_)
  replace hst : St M w0 76 [(10,tv (.slice none 0 0)),(9,ti t25),(8,tptr (rSapi_Field.cs t20)),(3,tptr (rSapi_Schema.cs x_)),(1,ti kind_)] [own rI 3 ([] : List Int) (.slice none 0 0)] a w := ((hst.pick [0,2,3,4,5]).nil (rI) 3)
  refine hK8 _ _ ?_
  try clear hK8 K8
  refine wp_seq_k (fun K10 hK10 => ?_)
  obtain ⟨t37,ht37,h⟩ := bind_some h
  refine wp_reg mixed [] hst (fun _ => .p rfl (op_field fld34_1 (.t 3 rfl)) <| .p rfl (op_loadT (R := (rSl rSapi_Kind)) (u := (x_).Kinds) tok30 (.t 0 rfl) rfl) <| .q 3 rfl <| .p rfl (op_index Tryz.underlying30 tok47 (.t 1 rfl) (.t 0 rfl) ht37) <| .p rfl (op_field fld47_3 (.t 0 rfl)) <| .p rfl (op_loadT (R := (rSl rSapi_Field)) (u := (t37).Fields) tok45 (.t 0 rfl) rfl) <| .p rfl (op_assign (.t 0 rfl)) <| .nil _ _) (by kernel_rfl) (fun n6 a w hst => ?_)
  replace hst : St M w0 76 [(11,tsl rSapi_Field (t37).Fields),(10,tv (.slice none 0 0)),(9,ti t25),(8,tptr (rSapi_Field.cs t20)),(3,tptr (rSapi_Schema.cs x_)),(1,ti kind_)] [own rI 3 ([] : List Int) (.slice none 0 0)] a w := (hst.pick [6,7,8,9,10,11])
  refine hK10 _ _ ?_
  try clear hK10 K10
  refine wp_seq_k (fun K11 hK11 => ?_)
  refine wp_seq_k (fun K12 hK12 => ?_)
  refine wp_reg mixed [] hst (fun _ => .p rfl (op_assign .k) <| .nil _ _) (by kernel_rfl) (fun n7 a w hst => ?_)
  replace hst : St M w0 76 [(12,ti (0:Int)),(11,tsl rSapi_Field (t37).Fields),(10,tv (.slice none 0 0)),(9,ti t25),(8,tptr (rSapi_Field.cs t20)),(3,tptr (rSapi_Schema.cs x_)),(1,ti kind_)] [own rI 3 ([] : List Int) (.slice none 0 0)] a w := (hst.pick [0,1,2,3,4,5,6])
  refine hK12 _ _ ?_
  try clear hK12 K12
  obtain ⟨e14,he14,h⟩ := bind_some h
  have hJp34 : ∀ (p34 : List Int) (v35 : Value) a w,p34 = e14 → St M w0 76 [(10,tv v35),(9,ti t25)] [own rI 3 p34 v35] a w → K11 a w := by
   intro p34 v35 a w he hst
   subst he
   refine hK11 _ _ ?_
   try clear hK11 K11
   refine wp_seq_k (fun K36 hK36 => ?_)
   refine wp_reg mixed [] hst (fun _ => .q 1 rfl <| .q 1 rfl <| .p rfl (op_assign (.t 1 rfl)) <| .p rfl (op_assign (.t 1 rfl)) <| .nil _ _) (by kernel_rfl) (fun n12 a w hst => ?_)
   replace hst : St M w0 76 [(75,tv v35),(6,ti t25),(7,tv v35),(10,tv v35)] [own rI 3 p34 v35] a w := (hst.pick [1,2,3,4])
   refine hK36 _ _ ?_
   try clear hK36 K36
   refine wp_ret ?_
   replace hst : St M w0 76 [(7,tsl rI p34),(6,ti t25)] [] a w := ((hst.shareO 2 rfl).pick [0,2])
   obtain rfl := sj h
   exact ret_st undef [] hpl hst rfl (.tmp (.t 1 rfl) (.tmp (.t 0 rfl) .nil)) rfl rfl rfl
  refine wp_block ?_
  refine wp_loopK _ (fun (s13 : Int × List Int) a w => ∃ v24 : Value,St M w0 76 [(12,ti s13.1),(11,tsl rSapi_Field (t37).Fields),(10,tv v24),(9,ti t25),(8,tptr (rSapi_Field.cs t20)),(3,tptr (rSapi_Schema.cs x_)),(1,ti kind_)] [own rI 3 s13.2 v24] a w) _ _ he14 ⟨(.slice none 0 0),hst.pick [0,1,2,3,4,5,6]⟩ ?_
  clear h
  intro s13 o a w K37 hI h ho hK37
  obtain ⟨v24,hst⟩ := hI
  refine wp_seq_k (fun K38 hK38 => ?_)
  refine wp_seq_k (fun K39 hK39 => ?_)
  refine wp_reg mixed [] hst (fun _ => .q 0 rfl <| .q 2 rfl <| .p rfl (op_len Tryz.underlying45 (.t 0 rfl)) <| .p rfl (op_lss (.t 2 rfl) (.t 0 rfl)) <| .nil _ _) (by kernel_rfl) (fun n8 a w hst => ?_)
  replace hst : St M w0 76 [(43,tb (decide (s13.1 < ((t37).Fields.length : Int)))),(12,ti s13.1),(11,tsl rSapi_Field (t37).Fields),(10,tv v24),(9,ti t25),(8,tptr (rSapi_Field.cs t20)),(3,tptr (rSapi_Schema.cs x_)),(1,ti kind_)] [own rI 3 s13.2 v24] a w := (hst.pick [3,4,5,6,7,8,9,10])
  refine hK39 _ _ ?_
  try clear hK39 K39
  refine wp_test 0 hst rfl (fun b46 => ?_) (fun b46 => ?_)
  ·replace h := ite_t b46 h
   refine wp_skip ?_
   refine hK38 _ _ ?_
   try clear hK38 K38
   refine wp_seq_k (fun K40 hK40 => ?_)
   refine wp_block ?_
   refine wp_seq_k (fun K41 hK41 => ?_)
   obtain ⟨t48,ht48,h⟩ := bind_some h
   obtain ⟨t55,ht55,h⟩ := bind_some h
   obtain ⟨t66,ht66,h⟩ := bind_some h
   refine wp_reg mixed [] hst (fun _ => .q 2 rfl <| .q 2 rfl <| .p rfl (op_index Tryz.underlying45 tok44 (.t 1 rfl) (.t 0 rfl) ht48) <| .p rfl (op_field fld44_3 (.t 0 rfl)) <| .p rfl (op_loadT (R := rI) (u := (t48).Kind) tok3 (.t 0 rfl) rfl) <| .p rfl (op_eql (.t 0 rfl) .k) <| .q 0 rfl <| .g rfl rfl (.b 0 rfl) (fun _ => op_move (.t 9 rfl)) <| .g rfl rfl (.b 1 rfl) (fun _ => op_move (.t 9 rfl)) <| .g rfl rfl (.b 2 rfl) (fun hc => op_index Tryz.underlying45 tok44 (.cond (.t 1 rfl) hc) (.cond (.t 0 rfl) hc) (opt_t ht55 hc)) <| .g rfl rfl (.b 3 rfl) (fun hc => op_field fld44_1 (.cond (.t 0 rfl) hc)) <| .g rfl rfl (.b 4 rfl) (fun hc => op_loadT (R := rS) (u := (t55).Of) tok9 (.cond (.t 0 rfl) hc) rfl) <| .g rfl rfl (.b 5 rfl) (fun _ => op_field fld44_0 (.t 17 rfl)) <| .g rfl rfl (.b 6 rfl) (fun hc => op_loadT (R := rS) (u := (t20).Name) tok9 (.cond (.t 0 rfl) hc) rfl) <| .g rfl rfl (.b 7 rfl) (fun hc => op_eqlS (.cond (.t 2 rfl) hc) (.cond (.t 0 rfl) hc)) <| .p rfl (op_and (.t 8 rfl) (fun hp => (.cond (.t 0 rfl) (beqT hp)))) <| .q 0 rfl <| .g rfl rfl (.b 0 rfl) (fun _ => op_load tok34 (.t 23 rfl)) <| .g rfl rfl (.b 1 rfl) (fun _ => op_move (.t 22 rfl)) <| .g rfl rfl (.b 2 rfl) (fun _ => op_move (.t 20 rfl)) <| .g rfl rfl (.b 3 rfl) (fun hc => op_callF call16 (ref10_Up_ok (opt_t ht66 hc)) (.cons (.of (.cond (.t 2 rfl) hc)) <| .cons (.of (.cond (.t 1 rfl) hc)) <| .cons (.of (.cond (.t 0 rfl) hc)) <| .nil)) <| .g rfl rfl (.b 4 rfl) (fun _ => op_move (.t 28 rfl)) <| .g rfl rfl (.b 5 rfl) (fun hc => op_eql (.cond (.t 1 rfl) hc) (.cond (.t 0 rfl) hc)) <| .p rfl (op_and (.t 6 rfl) (fun hp => (.cond (.t 0 rfl) (beqT hp)))) <| .nil _ _) (by kernel_rfl) (fun n10 a w hst => ?_)
   replace hst : St M w0 76 [(69,tb ((((t48).Kind == (7:Int)) && ((t55).Of == (t20).Name)) && (t66 == kind_))),(12,ti s13.1),(11,tsl rSapi_Field (t37).Fields),(10,tv v24),(9,ti t25),(8,tptr (rSapi_Field.cs t20)),(3,tptr (rSapi_Schema.cs x_)),(1,ti kind_)] [own rI 3 s13.2 v24] a w := (hst.pick [23,25,26,27,28,29,30,31])
   refine hK41 _ _ ?_
   try clear hK41 K41
   obtain ⟨p42,hp42,h⟩ := bind_some h
   have hJp42 : ∀ (v44 : Value) a w,St M w0 76 [(10,tv v44),(12,ti s13.1),(11,tsl rSapi_Field (t37).Fields),(9,ti t25),(8,tptr (rSapi_Field.cs t20)),(3,tptr (rSapi_Schema.cs x_)),(1,ti kind_)] [own rI 3 p42 v44] a w → K40 a w := by
    intro v44 a w hst
    refine hK40 _ _ ?_
    try clear hK40 K40
    refine wp_reg mixed [] hst (fun _ => .q 1 rfl <| .p rfl (op_add (.t 0 rfl) .k) <| .p rfl (op_assign (.t 0 rfl)) <| .nil _ _) (by kernel_rfl) (fun n9 a w hst => ?_)
    replace hst : St M w0 76 [(12,ti (IntKind.i64.wrap (s13.1 + (1:Int)))),(10,tv v44),(11,tsl rSapi_Field (t37).Fields),(9,ti t25),(8,tptr (rSapi_Field.cs t20)),(3,tptr (rSapi_Schema.cs x_)),(1,ti kind_)] [own rI 3 p42 v44] a w := (hst.pick [2,3,4,5,6,7,8])
    exact hK37 _ _ _ (sj h).symm ⟨v44,hst.pick [0,2,1,3,4,5,6]⟩
   replace h := hp42
   clear hp42
   refine wp_test 0 hst rfl (fun b45 => ?_) (fun b45 => ?_)
   ·replace h := ite_t b45 h
    obtain ⟨u73,hu73,h⟩ := bind_some h
    refine wp_reg mixed [v1 3 (fun v0 => own rI 3 (s13.2 ++ [s13.1]) v0)] hst (fun _ => .q 3 rfl <| .q 2 rfl <| .p rfl (op_buildSl (R := rI) (us := [s13.1]) Tryz.underlying22 tok3 (.cons (.t 0 rfl) <| .nil _) rfl (leb rfl)) <| .e [] [0] [1] rfl rfl rfl rfl (op_append (R := rI) Tryz.underlying22 tok3 (leb rfl) (.t 2 rfl) (.t 0 rfl) hu73) <| .ud (f := fun v => tv v) 3 rfl [] rfl rfl (op_assign (.t 0 rfl)) <| .nil _ _) (by kernel_rfl) (fun n11 a w hst => ?_)
    replace hst : St M w0 76 [(73,tv (n11 3)),(10,tv (n11 3)),(12,ti s13.1),(11,tsl rSapi_Field (t37).Fields),(9,ti t25),(8,tptr (rSapi_Field.cs t20)),(3,tptr (rSapi_Schema.cs x_)),(1,ti kind_)] [own rI 3 (s13.2 ++ [s13.1]) (n11 3)] a w := (hst.pick [3,4,6,7,8,9,10,11])
    obtain rfl := sj h
    exact hJp42 (n11 3) _ _ (hst.pick [1,2,3,4,5,6,7])
   ·replace h := ite_f b45 h
    refine wp_skip ?_
    obtain rfl := sj h
    exact hJp42 v24 _ _ (hst.pick [3,1,2,4,5,6,7])
  ·replace h := ite_f b46 h
   refine wp_exit ?_
   exact hJp34 _ v24 _ _ (ho _ (sj h).symm) (hst.pick [3,4])

/- diorama/dioramaref10.Shares -/
noncomputable def fref10_Shares (x_ : Sapi_Schema) (kind_ : Int) (field_ : Int) : Option (Int × Int) := (fref10_Has x_ kind_ field_).bind fun t13 => (if (!t13) = true then (some ((-1:Int),(-1:Int))) else (fref10_Sums x_ kind_ field_).bind fun t19 => (if ((t19.2.length : Int) != (1:Int)) = true then (some ((-1:Int),(-1:Int))) else (idx t19.2 (0:Int)).bind fun t27 => (some (t19.1,t27))))
set_option maxRecDepth 100000 in
set_option maxHeartbeats 4000000 in
theorem ref10_Shares_ok {x_ : Sapi_Schema} {kind_ : Int} {field_ : Int} {r : Int × Int} (h : fref10_Shares x_ kind_ field_ = some r) : FnOk Tryz.prog 14 [rSapi_Schema.ty x_,ti kind_,ti field_] [] (fun _ => []) (fun _ => ttup [ti r.1,ti r.2]) := by
 unfold fref10_Shares at h
 refine FnOk.enter Tryz.func14 rfl Tryz.ntmps14 (leb rfl) (fun M0 M w0 a hpl hst => ?_)
 replace hst : St M w0 29 [(0,rSapi_Schema.ty x_),(1,ti kind_),(2,ti field_)] [] a w0 := hst
 refine wp_seq_k (fun K1 hK1 => ?_)
 refine wp_reg mixed [] hst (fun _ => .p rfl (op_boxR (R := rSapi_Schema) (u := x_) (.t 0 rfl)) <| .p rfl (op_assign .k) <| .p rfl (op_assign .k) <| .nil _ _) (by kernel_rfl) (fun n0 a w hst => ?_)
 replace hst : St M w0 29 [(3,tptr (rSapi_Schema.cs x_)),(1,ti kind_),(2,ti field_)] [] a w := (hst.pick [0,4,5])
 refine hK1 _ _ ?_
 try clear hK1 K1
 refine wp_seq_k (fun K2 hK2 => ?_)
 refine wp_seq_k (fun K3 hK3 => ?_)
 obtain ⟨t13,ht13,h⟩ := bind_some h
 refine wp_reg mixed [] hst (fun _ => .p rfl (op_load tok34 (.t 0 rfl)) <| .q 2 rfl <| .q 4 rfl <| .p rfl (op_callF call17 (ref10_Has_ok ht13) (.cons (.of (.t 2 rfl)) <| .cons (.of (.t 1 rfl)) <| .cons (.of (.t 0 rfl)) <| .nil)) <| .p rfl (op_not (.t 0 rfl)) <| .nil _ _) (by kernel_rfl) (fun n1 a w hst => ?_)
 replace hst : St M w0 29 [(14,tb (!t13)),(3,tptr (rSapi_Schema.cs x_)),(1,ti kind_),(2,ti field_)] [] a w := (hst.pick [4,5,6,7])
 refine hK3 _ _ ?_
 try clear hK3 K3
 refine wp_test 0 hst rfl (fun b11 => ?_) (fun b11 => ?_)
 ·replace h := ite_t b11 h
  refine wp_seq_k (fun K4 hK4 => ?_)
  refine wp_reg mixed [] hst (fun _ => .p rfl (op_assign .k) <| .p rfl (op_assign .k) <| .nil _ _) (by kernel_rfl) (fun n2 a w hst => ?_)
  replace hst : St M w0 29 [(6,ti (-1:Int)),(7,ti (-1:Int))] [] a w := (hst.pick [0,1])
  refine hK4 _ _ ?_
  try clear hK4 K4
  refine wp_ret ?_
  obtain rfl := sj h
  exact ret_st undef [] hpl hst rfl (.tmp (.t 0 rfl) (.tmp (.t 1 rfl) .nil)) rfl rfl rfl
 ·replace h := ite_f b11 h
  refine wp_skip ?_
  refine hK2 _ _ ?_
  try clear hK2 K2
  refine wp_seq_k (fun K5 hK5 => ?_)
  obtain ⟨t19,ht19,h⟩ := bind_some h
  refine wp_reg mixed [] hst (fun _ => .p rfl (op_load tok34 (.t 1 rfl)) <| .q 3 rfl <| .q 5 rfl <| .p rfl (op_callF call46 (ref10_Sums_ok ht19) (.cons (.of (.t 2 rfl)) <| .cons (.of (.t 1 rfl)) <| .cons (.of (.t 0 rfl)) <| .nil)) <| .q 0 rfl <| .p rfl (op_extract (.t 0 rfl) rfl) <| .p rfl (op_extract (.t 1 rfl) rfl) <| .p rfl (op_assign (.t 1 rfl)) <| .p rfl (op_assign (.t 1 rfl)) <| .nil _ _) (by kernel_rfl) (fun n3 a w hst => ?_)
  replace hst : St M w0 29 [(8,ti t19.1),(9,tsl rI t19.2)] [] a w := (hst.pick [7,8])
  refine hK5 _ _ ?_
  try clear hK5 K5
  refine wp_seq_k (fun K6 hK6 => ?_)
  refine wp_seq_k (fun K7 hK7 => ?_)
  refine wp_reg mixed [] hst (fun _ => .q 1 rfl <| .p rfl (op_len Tryz.underlying22 (.t 0 rfl)) <| .p rfl (op_neq (.t 0 rfl) .k) <| .nil _ _) (by kernel_rfl) (fun n4 a w hst => ?_)
  replace hst : St M w0 29 [(24,tb ((t19.2.length : Int) != (1:Int))),(8,ti t19.1),(9,tsl rI t19.2)] [] a w := (hst.pick [2,3,4])
  refine hK7 _ _ ?_
  try clear hK7 K7
  refine wp_test 0 hst rfl (fun b10 => ?_) (fun b10 => ?_)
  ·replace h := ite_t b10 h
   refine wp_seq_k (fun K8 hK8 => ?_)
   refine wp_reg mixed [] hst (fun _ => .p rfl (op_assign .k) <| .p rfl (op_assign .k) <| .nil _ _) (by kernel_rfl) (fun n5 a w hst => ?_)
   replace hst : St M w0 29 [(6,ti (-1:Int)),(7,ti (-1:Int))] [] a w := (hst.pick [0,1])
   refine hK8 _ _ ?_
   try clear hK8 K8
   refine wp_ret ?_
   obtain rfl := sj h
   exact ret_st undef [] hpl hst rfl (.tmp (.t 0 rfl) (.tmp (.t 1 rfl) .nil)) rfl rfl rfl
  ·replace h := ite_f b10 h
   refine wp_skip ?_
   refine hK6 _ _ ?_
   try clear hK6 K6
   refine wp_seq_k (fun K9 hK9 => ?_)
   obtain ⟨t27,ht27,h⟩ := bind_some h
   refine wp_reg mixed [] hst (fun _ => .q 1 rfl <| .q 3 rfl <| .p rfl (op_index Tryz.underlying22 tok3 (.t 0 rfl) .k ht27) <| .p rfl (op_load tok3 (.t 0 rfl)) <| .p rfl (op_assign (.t 3 rfl)) <| .p rfl (op_assign (.t 1 rfl)) <| .nil _ _) (by kernel_rfl) (fun n6 a w hst => ?_)
   replace hst : St M w0 29 [(6,ti t19.1),(7,ti t27)] [] a w := (hst.pick [4,5])
   refine hK9 _ _ ?_
   try clear hK9 K9
   refine wp_ret ?_
   obtain rfl := sj h
   exact ret_st undef [] hpl hst rfl (.tmp (.t 0 rfl) (.tmp (.t 1 rfl) .nil)) rfl rfl rfl

/- diorama/dioramalaw10.example -/
noncomputable def flaw10_example (num_ : Bool) (turned_ : Bool) : Option (Sapi_Schema) := ((if num_ = true then (idx [(Sapi_Field.mk ([107] : Str) ([] : Str) ([] : Str) (0:Int) (0:Int) (0:Int) ([] : (List Str)) ([] : (List Int))),(Sapi_Field.mk ([114] : Str) ([97] : Str) ([] : Str) (1:Int) (0:Int) (3:Int) ([] : (List Str)) ([] : (List Int))),(Sapi_Field.mk ([99] : Str) ([107] : Str) ([114] : Str) (8:Int) (0:Int) (0:Int) ([] : (List Str)) ([] : (List Int)))] (2:Int)).bind fun t19 => (setAt [(Sapi_Field.mk ([107] : Str) ([] : Str) ([] : Str) (0:Int) (0:Int) (0:Int) ([] : (List Str)) ([] : (List Int))),(Sapi_Field.mk ([114] : Str) ([97] : Str) ([] : Str) (1:Int) (0:Int) (3:Int) ([] : (List Str)) ([] : (List Int))),(Sapi_Field.mk ([99] : Str) ([107] : Str) ([114] : Str) (8:Int) (0:Int) (0:Int) ([] : (List Str)) ([] : (List Int)))] (2:Int) { t19 with Of := ([110] : Str) }).bind fun t19s => (some t19s) else (some [(Sapi_Field.mk ([107] : Str) ([] : Str) ([] : Str) (0:Int) (0:Int) (0:Int) ([] : (List Str)) ([] : (List Int))),(Sapi_Field.mk ([114] : Str) ([97] : Str) ([] : Str) (1:Int) (0:Int) (3:Int) ([] : (List Str)) ([] : (List Int))),(Sapi_Field.mk ([99] : Str) ([107] : Str) ([114] : Str) (8:Int) (0:Int) (0:Int) ([] : (List Str)) ([] : (List Int)))]))).bind fun (p10 : List Sapi_Field) => (if turned_ = true then (some (Sapi_Schema.mk (0:Int) [(Sapi_Kind.mk ([98] : Str) (0:Int) (9:Int) p10),(Sapi_Kind.mk ([97] : Str) (0:Int) (9:Int) [(Sapi_Field.mk ([107] : Str) ([] : Str) ([] : Str) (0:Int) (0:Int) (0:Int) ([] : (List Str)) ([] : (List Int))),(Sapi_Field.mk ([110] : Str) ([] : Str) ([] : Str) (2:Int) (0:Int) (5:Int) ([] : (List Str)) ([] : (List Int)))])] ([] : (List Sapi_Life)) ([] : (List Sapi_Rule)))) else (some (Sapi_Schema.mk (0:Int) [(Sapi_Kind.mk ([97] : Str) (0:Int) (9:Int) [(Sapi_Field.mk ([107] : Str) ([] : Str) ([] : Str) (0:Int) (0:Int) (0:Int) ([] : (List Str)) ([] : (List Int))),(Sapi_Field.mk ([110] : Str) ([] : Str) ([] : Str) (2:Int) (0:Int) (5:Int) ([] : (List Str)) ([] : (List Int)))]),(Sapi_Kind.mk ([98] : Str) (0:Int) (9:Int) p10)] ([] : (List Sapi_Life)) ([] : (List Sapi_Rule)))))
set_option maxRecDepth 100000 in
set_option maxHeartbeats 4000000 in
theorem law10_example_ok {num_ : Bool} {turned_ : Bool} {r : Sapi_Schema} (h : flaw10_example num_ turned_ = some r) : FnOk Tryz.prog 43 [tb num_,tb turned_] [] (fun _ => []) (fun _ => rSapi_Schema.ty r) := by
 unfold flaw10_example at h
 refine FnOk.enter Tryz.func43 rfl Tryz.ntmps43 (leb rfl) (fun M0 M w0 a hpl hst => ?_)
 replace hst : St M w0 30 [(0,tb num_),(1,tb turned_)] [] a w0 := hst
 refine wp_seq_k (fun K1 hK1 => ?_)
 refine wp_reg mixed [v1 0 (fun v0 => box (rSapi_Schema.cs (Sapi_Schema.mk (0:Int) ([] : (List Sapi_Kind)) ([] : (List Sapi_Life)) ([] : (List Sapi_Rule)))) v0)] hst (fun _ => .m [] [0] rfl rfl rfl (op_alloc (R := rSapi_Schema) (a := (Sapi_Schema.mk (0:Int) ([] : (List Sapi_Kind)) ([] : (List Sapi_Life)) ([] : (List Sapi_Rule)))) tok34 zok34) <| .nil _ _) (by kernel_rfl) (fun n0 a w hst => ?_)
 replace hst : St M w0 30 [(4,tv (n0 0)),(0,tb num_),(1,tb turned_)] [box (rSapi_Schema.cs (Sapi_Schema.mk (0:Int) ([] : (List Sapi_Kind)) ([] : (List Sapi_Life)) ([] : (List Sapi_Rule)))) (n0 0)] a w := (hst.pick [0,1,2])
 refine hK1 _ _ ?_
 try clear hK1 K1
 refine wp_seq_k (fun K3 hK3 => ?_)
 refine wp_reg mixed [v1 4 (fun v0 => box (rSapi_Kind.cs (Sapi_Kind.mk ([] : Str) (0:Int) (0:Int) ([] : (List Sapi_Field)))) v0),v1 4 (fun v0 => box (rSapi_Kind.cs (Sapi_Kind.mk ([97] : Str) (0:Int) (9:Int) [(Sapi_Field.mk ([107] : Str) ([] : Str) ([] : Str) (0:Int) (0:Int) (0:Int) ([] : (List Str)) ([] : (List Int))),(Sapi_Field.mk ([110] : Str) ([] : Str) ([] : Str) (2:Int) (0:Int) (5:Int) ([] : (List Str)) ([] : (List Int)))])) v0)] hst (fun _ => .p (T := rSapi_Field.ty (Sapi_Field.mk ([107] : Str) ([] : Str) ([] : Str) (0:Int) (0:Int) (0:Int) ([] : (List Str)) ([] : (List Int)))) rfl (op_build Tryz.underlying44 pl44 zv44 zc44 (.cons (R := rS) (u := ([107] : Str)) rfl .k (leb rfl) <| .nil _)) <| .p (T := rSapi_Field.ty (Sapi_Field.mk ([110] : Str) ([] : Str) ([] : Str) (2:Int) (0:Int) (5:Int) ([] : (List Str)) ([] : (List Int)))) rfl (op_build Tryz.underlying44 pl44 zv44 zc44 (.cons (R := rS) (u := ([110] : Str)) rfl .k (leb rfl) <| .cons (R := rI) (u := (2:Int)) rfl .k (leb rfl) <| .cons (R := rI) (u := (5:Int)) rfl .k (leb rfl) <| .nil _)) <| .p rfl (op_buildSl (R := rSapi_Field) (us := [(Sapi_Field.mk ([107] : Str) ([] : Str) ([] : Str) (0:Int) (0:Int) (0:Int) ([] : (List Str)) ([] : (List Int))),(Sapi_Field.mk ([110] : Str) ([] : Str) ([] : Str) (2:Int) (0:Int) (5:Int) ([] : (List Str)) ([] : (List Int)))]) Tryz.underlying45 tok44 (.cons (.t 1 rfl) <| .cons (.t 0 rfl) <| .nil _) rfl (leb rfl)) <| .p (T := rSapi_Kind.ty (Sapi_Kind.mk ([97] : Str) (0:Int) (9:Int) [(Sapi_Field.mk ([107] : Str) ([] : Str) ([] : Str) (0:Int) (0:Int) (0:Int) ([] : (List Str)) ([] : (List Int))),(Sapi_Field.mk ([110] : Str) ([] : Str) ([] : Str) (2:Int) (0:Int) (5:Int) ([] : (List Str)) ([] : (List Int)))])) rfl (op_build Tryz.underlying47 pl47 zv47 zc47 (.cons (R := rS) (u := ([97] : Str)) rfl .k (leb rfl) <| .cons (R := rI) (u := (9:Int)) rfl .k (leb rfl) <| .cons (R := (rSl rSapi_Field)) (u := [(Sapi_Field.mk ([107] : Str) ([] : Str) ([] : Str) (0:Int) (0:Int) (0:Int) ([] : (List Str)) ([] : (List Int))),(Sapi_Field.mk ([110] : Str) ([] : Str) ([] : Str) (2:Int) (0:Int) (5:Int) ([] : (List Str)) ([] : (List Int)))]) rfl (.t 0 rfl) (leb rfl) <| .nil _)) <| .m [] [1] rfl rfl rfl (op_alloc (R := rSapi_Kind) (a := (Sapi_Kind.mk ([] : Str) (0:Int) (0:Int) ([] : (List Sapi_Field)))) tok47 zok47) <| .e [] [1] [2] rfl rfl rfl rfl (op_storeB (R := rSapi_Kind) (a := (Sapi_Kind.mk ([97] : Str) (0:Int) (9:Int) [(Sapi_Field.mk ([107] : Str) ([] : Str) ([] : Str) (0:Int) (0:Int) (0:Int) ([] : (List Str)) ([] : (List Int))),(Sapi_Field.mk ([110] : Str) ([] : Str) ([] : Str) (2:Int) (0:Int) (5:Int) ([] : (List Str)) ([] : (List Int)))])) tok47 (.t 0 rfl) (.t 1 rfl) (leb rfl)) <| .nil _ _) (by kernel_rfl) (fun n1 a w hst => ?_)
 replace hst : St M w0 30 [(5,tptr (rSapi_Kind.cs (Sapi_Kind.mk ([97] : Str) (0:Int) (9:Int) [(Sapi_Field.mk ([107] : Str) ([] : Str) ([] : Str) (0:Int) (0:Int) (0:Int) ([] : (List Str)) ([] : (List Int))),(Sapi_Field.mk ([110] : Str) ([] : Str) ([] : Str) (2:Int) (0:Int) (5:Int) ([] : (List Str)) ([] : (List Int)))]))),(4,tv (n0 0)),(0,tb num_),(1,tb turned_)] [box (rSapi_Schema.cs (Sapi_Schema.mk (0:Int) ([] : (List Sapi_Kind)) ([] : (List Sapi_Life)) ([] : (List Sapi_Rule)))) (n0 0)] a w := (((((hst.pick [4,5,6,7]).selA [1,0] rfl).shareB 0 rfl).add 0 rfl (fun _ _ _ h => h.2)).pick [0,3,4,5])
 refine hK3 _ _ ?_
 try clear hK3 K3
 refine wp_seq_k (fun K5 hK5 => ?_)
 refine wp_reg mixed [v1 3 (fun v0 => own rSapi_Field 44 [(Sapi_Field.mk ([107] : Str) ([] : Str) ([] : Str) (0:Int) (0:Int) (0:Int) ([] : (List Str)) ([] : (List Int))),(Sapi_Field.mk ([114] : Str) ([97] : Str) ([] : Str) (1:Int) (0:Int) (3:Int) ([] : (List Str)) ([] : (List Int))),(Sapi_Field.mk ([99] : Str) ([107] : Str) ([114] : Str) (8:Int) (0:Int) (0:Int) ([] : (List Str)) ([] : (List Int)))] v0),v1 5 (fun v0 => box (rSapi_Kind.cs (Sapi_Kind.mk ([] : Str) (0:Int) (0:Int) ([] : (List Sapi_Field)))) v0),v2 3 5 (fun v0 v1 => box ([tv (.string (sB ([98] : Str))),ti (0:Int),ti (9:Int),tvs v0]) v1)] hst (fun n2 => .p (T := rSapi_Field.ty (Sapi_Field.mk ([107] : Str) ([] : Str) ([] : Str) (0:Int) (0:Int) (0:Int) ([] : (List Str)) ([] : (List Int)))) rfl (op_build Tryz.underlying44 pl44 zv44 zc44 (.cons (R := rS) (u := ([107] : Str)) rfl .k (leb rfl) <| .nil _)) <| .p (T := rSapi_Field.ty (Sapi_Field.mk ([114] : Str) ([97] : Str) ([] : Str) (1:Int) (0:Int) (3:Int) ([] : (List Str)) ([] : (List Int)))) rfl (op_build Tryz.underlying44 pl44 zv44 zc44 (.cons (R := rS) (u := ([114] : Str)) rfl .k (leb rfl) <| .cons (R := rS) (u := ([97] : Str)) rfl .k (leb rfl) <| .cons (R := rI) (u := (1:Int)) rfl .k (leb rfl) <| .cons (R := rI) (u := (3:Int)) rfl .k (leb rfl) <| .nil _)) <| .p (T := rSapi_Field.ty (Sapi_Field.mk ([99] : Str) ([107] : Str) ([114] : Str) (8:Int) (0:Int) (0:Int) ([] : (List Str)) ([] : (List Int)))) rfl (op_build Tryz.underlying44 pl44 zv44 zc44 (.cons (R := rS) (u := ([99] : Str)) rfl .k (leb rfl) <| .cons (R := rS) (u := ([107] : Str)) rfl .k (leb rfl) <| .cons (R := rS) (u := ([114] : Str)) rfl .k (leb rfl) <| .cons (R := rI) (u := (8:Int)) rfl .k (leb rfl) <| .nil _)) <| .m [] [1] rfl rfl rfl (op_buildSlO (R := rSapi_Field) (us := [(Sapi_Field.mk ([107] : Str) ([] : Str) ([] : Str) (0:Int) (0:Int) (0:Int) ([] : (List Str)) ([] : (List Int))),(Sapi_Field.mk ([114] : Str) ([97] : Str) ([] : Str) (1:Int) (0:Int) (3:Int) ([] : (List Str)) ([] : (List Int))),(Sapi_Field.mk ([99] : Str) ([107] : Str) ([114] : Str) (8:Int) (0:Int) (0:Int) ([] : (List Str)) ([] : (List Int)))]) Tryz.underlying45 tok44 (.cons (.t 2 rfl) <| .cons (.t 1 rfl) <| .cons (.t 0 rfl) <| .nil _) rfl (leb rfl) (leb rfl)) <| .ud (f := fun v => tagg ([tv (.string (sB ([98] : Str))),ti (0:Int),ti (9:Int),tvs v])) 3 rfl [1] rfl rfl (.say (A := own rSapi_Field 44 [(Sapi_Field.mk ([107] : Str) ([] : Str) ([] : Str) (0:Int) (0:Int) (0:Int) ([] : (List Str)) ([] : (List Int))),(Sapi_Field.mk ([114] : Str) ([97] : Str) ([] : Str) (1:Int) (0:Int) (3:Int) ([] : (List Str)) ([] : (List Int))),(Sapi_Field.mk ([99] : Str) ([107] : Str) ([114] : Str) (8:Int) (0:Int) (0:Int) ([] : (List Str)) ([] : (List Int)))] (n2 3)) (.head _) (fun _ _ h => own_one h) fun hu1 => OpJ.useMore (U := []) (fun A hA => by cases hA) (op_build Tryz.underlying47 pl47 zv47 zc47 (.cons (R := rS) (u := ([98] : Str)) rfl .k (leb rfl) <| .cons (R := rI) (u := (9:Int)) rfl .k (leb rfl) <| .cons (R := rVal) (u := (n2 3)) rfl (Fct.weak (.t 0 rfl) fun _ _ _ h => ⟨h,hu1⟩) (leb rfl) <| .nil _))) <| .m [] [2] rfl rfl rfl (op_alloc (R := rSapi_Kind) (a := (Sapi_Kind.mk ([] : Str) (0:Int) (0:Int) ([] : (List Sapi_Field)))) tok47 zok47) <| .e [] [2] [3] rfl rfl rfl rfl (op_storeB (R := (rAgg ([tv (.string (sB ([98] : Str))),ti (0:Int),ti (9:Int),tvs (n2 3)]) (one_cons (one_tv rfl) (one_cons (one_tv rfl) (one_cons (one_tv rfl) (one_cons one_tvs one_nil)))))) (a := ()) (tokA tok47 (one_cons (one_tv rfl) (one_cons (one_tv rfl) (one_cons (one_tv rfl) (one_cons one_tvs one_nil)))) rfl rfl) (.t 0 rfl) (.t 1 rfl) (leb rfl)) <| .nil _ _) (by kernel_rfl) (fun n2 a w hst => ?_)
 replace hst : St M w0 30 [(14,tv (n2 3)),(6,tv (n2 5)),(5,tptr (rSapi_Kind.cs (Sapi_Kind.mk ([97] : Str) (0:Int) (9:Int) [(Sapi_Field.mk ([107] : Str) ([] : Str) ([] : Str) (0:Int) (0:Int) (0:Int) ([] : (List Str)) ([] : (List Int))),(Sapi_Field.mk ([110] : Str) ([] : Str) ([] : Str) (2:Int) (0:Int) (5:Int) ([] : (List Str)) ([] : (List Int)))]))),(4,tv (n0 0)),(0,tb num_),(1,tb turned_)] [box (rSapi_Schema.cs (Sapi_Schema.mk (0:Int) ([] : (List Sapi_Kind)) ([] : (List Sapi_Life)) ([] : (List Sapi_Rule)))) (n0 0),own rSapi_Field 44 [(Sapi_Field.mk ([107] : Str) ([] : Str) ([] : Str) (0:Int) (0:Int) (0:Int) ([] : (List Str)) ([] : (List Int))),(Sapi_Field.mk ([114] : Str) ([97] : Str) ([] : Str) (1:Int) (0:Int) (3:Int) ([] : (List Str)) ([] : (List Int))),(Sapi_Field.mk ([99] : Str) ([107] : Str) ([114] : Str) (8:Int) (0:Int) (0:Int) ([] : (List Str)) ([] : (List Int)))] (n2 3),box ([tv (.string (sB ([98] : Str))),ti (0:Int),ti (9:Int),tvs (n2 3)]) (n2 5)] a w := (hst.pick [3,5,6,7,8,9])
 refine hK5 _ _ ?_
 try clear hK5 K5
 refine wp_seq_k (fun K8 hK8 => ?_)
 refine wp_seq_k (fun K9 hK9 => ?_)
 refine wp_reg mixed [] hst (fun _ => .q 4 rfl <| .nil _ _) (by kernel_rfl) (fun n3 a w hst => ?_)
 replace hst : St M w0 30 [(16,tb num_),(14,tv (n2 3)),(6,tv (n2 5)),(5,tptr (rSapi_Kind.cs (Sapi_Kind.mk ([97] : Str) (0:Int) (9:Int) [(Sapi_Field.mk ([107] : Str) ([] : Str) ([] : Str) (0:Int) (0:Int) (0:Int) ([] : (List Str)) ([] : (List Int))),(Sapi_Field.mk ([110] : Str) ([] : Str) ([] : Str) (2:Int) (0:Int) (5:Int) ([] : (List Str)) ([] : (List Int)))]))),(4,tv (n0 0)),(1,tb turned_)] [box (rSapi_Schema.cs (Sapi_Schema.mk (0:Int) ([] : (List Sapi_Kind)) ([] : (List Sapi_Life)) ([] : (List Sapi_Rule)))) (n0 0),own rSapi_Field 44 [(Sapi_Field.mk ([107] : Str) ([] : Str) ([] : Str) (0:Int) (0:Int) (0:Int) ([] : (List Str)) ([] : (List Int))),(Sapi_Field.mk ([114] : Str) ([97] : Str) ([] : Str) (1:Int) (0:Int) (3:Int) ([] : (List Str)) ([] : (List Int))),(Sapi_Field.mk ([99] : Str) ([107] : Str) ([114] : Str) (8:Int) (0:Int) (0:Int) ([] : (List Str)) ([] : (List Int)))] (n2 3),box ([tv (.string (sB ([98] : Str))),ti (0:Int),ti (9:Int),tvs (n2 3)]) (n2 5)] a w := (hst.pick [0,1,2,3,4,6])
 refine hK9 _ _ ?_
 try clear hK9 K9
 obtain ⟨p10,hp10,h⟩ := bind_some h
 have hJp10 : ∀ a w,St M w0 30 [(6,tv (n2 5)),(5,tptr (rSapi_Kind.cs (Sapi_Kind.mk ([97] : Str) (0:Int) (9:Int) [(Sapi_Field.mk ([107] : Str) ([] : Str) ([] : Str) (0:Int) (0:Int) (0:Int) ([] : (List Str)) ([] : (List Int))),(Sapi_Field.mk ([110] : Str) ([] : Str) ([] : Str) (2:Int) (0:Int) (5:Int) ([] : (List Str)) ([] : (List Int)))]))),(4,tv (n0 0)),(1,tb turned_)] [box (rSapi_Schema.cs (Sapi_Schema.mk (0:Int) ([] : (List Sapi_Kind)) ([] : (List Sapi_Life)) ([] : (List Sapi_Rule)))) (n0 0),box ([tv (.string (sB ([98] : Str))),ti (0:Int),ti (9:Int),tvs (n2 3)]) (n2 5),own rSapi_Field 44 p10 (n2 3)] a w → K8 a w := by
  intro a w hst
  refine hK8 _ _ ?_
  try clear hK8 K8
  refine wp_seq_k (fun K12 hK12 => ?_)
  refine wp_seq_k (fun K13 hK13 => ?_)
  refine wp_reg mixed [] hst (fun _ => .q 3 rfl <| .nil _ _) (by kernel_rfl) (fun n5 a w hst => ?_)
  replace hst : St M w0 30 [(21,tb turned_),(6,tv (n2 5)),(5,tptr (rSapi_Kind.cs (Sapi_Kind.mk ([97] : Str) (0:Int) (9:Int) [(Sapi_Field.mk ([107] : Str) ([] : Str) ([] : Str) (0:Int) (0:Int) (0:Int) ([] : (List Str)) ([] : (List Int))),(Sapi_Field.mk ([110] : Str) ([] : Str) ([] : Str) (2:Int) (0:Int) (5:Int) ([] : (List Str)) ([] : (List Int)))]))),(4,tv (n0 0))] [box (rSapi_Schema.cs (Sapi_Schema.mk (0:Int) ([] : (List Sapi_Kind)) ([] : (List Sapi_Life)) ([] : (List Sapi_Rule)))) (n0 0),box ([tv (.string (sB ([98] : Str))),ti (0:Int),ti (9:Int),tvs (n2 3)]) (n2 5),own rSapi_Field 44 p10 (n2 3)] a w := (hst.pick [0,1,2,3])
  refine hK13 _ _ ?_
  try clear hK13 K13
  refine wp_test 0 hst rfl (fun b16 => ?_) (fun b16 => ?_)
  ·replace h := ite_t b16 h
   refine wp_seq_k (fun K14 hK14 => ?_)
   replace hst : St M w0 30 [(21,tb turned_),(6,tv (n2 5)),(5,tptr (rSapi_Kind.cs (Sapi_Kind.mk ([97] : Str) (0:Int) (9:Int) [(Sapi_Field.mk ([107] : Str) ([] : Str) ([] : Str) (0:Int) (0:Int) (0:Int) ([] : (List Str)) ([] : (List Int))),(Sapi_Field.mk ([110] : Str) ([] : Str) ([] : Str) (2:Int) (0:Int) (5:Int) ([] : (List Str)) ([] : (List Int)))]))),(4,tv (n0 0))] [box (rSapi_Kind.cs (Sapi_Kind.mk ([98] : Str) (0:Int) (9:Int) p10)) (n2 5),box (rSapi_Schema.cs (Sapi_Schema.mk (0:Int) ([] : (List Sapi_Kind)) ([] : (List Sapi_Life)) ([] : (List Sapi_Rule)))) (n0 0)] a w := ((hst.pick [0,1,2,3]).selA [2,1,0] rfl).shareC 3 rfl
   refine wp_reg mixed [v0 (box (rSapi_Schema.cs (Sapi_Schema.mk (0:Int) [(Sapi_Kind.mk ([98] : Str) (0:Int) (9:Int) p10),(Sapi_Kind.mk ([97] : Str) (0:Int) (9:Int) [(Sapi_Field.mk ([107] : Str) ([] : Str) ([] : Str) (0:Int) (0:Int) (0:Int) ([] : (List Str)) ([] : (List Int))),(Sapi_Field.mk ([110] : Str) ([] : Str) ([] : Str) (2:Int) (0:Int) (5:Int) ([] : (List Str)) ([] : (List Int)))])] ([] : (List Sapi_Life)) ([] : (List Sapi_Rule)))) (n0 0))] hst (fun _ => .u [0] rfl rfl (op_loadB (R := rSapi_Kind) (u := (Sapi_Kind.mk ([98] : Str) (0:Int) (9:Int) p10)) tok47 (.t 1 rfl) rfl) <| .p rfl (op_load tok47 (.t 3 rfl)) <| .p rfl (op_buildSl (R := rSapi_Kind) (us := [(Sapi_Kind.mk ([98] : Str) (0:Int) (9:Int) p10),(Sapi_Kind.mk ([97] : Str) (0:Int) (9:Int) [(Sapi_Field.mk ([107] : Str) ([] : Str) ([] : Str) (0:Int) (0:Int) (0:Int) ([] : (List Str)) ([] : (List Int))),(Sapi_Field.mk ([110] : Str) ([] : Str) ([] : Str) (2:Int) (0:Int) (5:Int) ([] : (List Str)) ([] : (List Int)))])]) Tryz.underlying30 tok47 (.cons (.t 1 rfl) <| .cons (.t 0 rfl) <| .nil _) rfl (leb rfl)) <| .p (T := rSapi_Schema.ty (Sapi_Schema.mk (0:Int) [(Sapi_Kind.mk ([98] : Str) (0:Int) (9:Int) p10),(Sapi_Kind.mk ([97] : Str) (0:Int) (9:Int) [(Sapi_Field.mk ([107] : Str) ([] : Str) ([] : Str) (0:Int) (0:Int) (0:Int) ([] : (List Str)) ([] : (List Int))),(Sapi_Field.mk ([110] : Str) ([] : Str) ([] : Str) (2:Int) (0:Int) (5:Int) ([] : (List Str)) ([] : (List Int)))])] ([] : (List Sapi_Life)) ([] : (List Sapi_Rule)))) rfl (op_build Tryz.underlying34 pl34 zv34 zc34 (.cons (R := (rSl rSapi_Kind)) (u := [(Sapi_Kind.mk ([98] : Str) (0:Int) (9:Int) p10),(Sapi_Kind.mk ([97] : Str) (0:Int) (9:Int) [(Sapi_Field.mk ([107] : Str) ([] : Str) ([] : Str) (0:Int) (0:Int) (0:Int) ([] : (List Str)) ([] : (List Int))),(Sapi_Field.mk ([110] : Str) ([] : Str) ([] : Str) (2:Int) (0:Int) (5:Int) ([] : (List Str)) ([] : (List Int)))])]) rfl (.t 0 rfl) (leb rfl) <| .nil _)) <| .e [] [1] [2] rfl rfl rfl rfl (op_storeB (R := rSapi_Schema) (a := (Sapi_Schema.mk (0:Int) [(Sapi_Kind.mk ([98] : Str) (0:Int) (9:Int) p10),(Sapi_Kind.mk ([97] : Str) (0:Int) (9:Int) [(Sapi_Field.mk ([107] : Str) ([] : Str) ([] : Str) (0:Int) (0:Int) (0:Int) ([] : (List Str)) ([] : (List Int))),(Sapi_Field.mk ([110] : Str) ([] : Str) ([] : Str) (2:Int) (0:Int) (5:Int) ([] : (List Str)) ([] : (List Int)))])] ([] : (List Sapi_Life)) ([] : (List Sapi_Rule)))) tok34 (.t 7 rfl) (.t 0 rfl) (leb rfl)) <| .nil _ _) (by kernel_rfl) (fun n6 a w hst => ?_)
   replace hst : St M w0 30 [(4,tv (n0 0))] [box (rSapi_Schema.cs (Sapi_Schema.mk (0:Int) [(Sapi_Kind.mk ([98] : Str) (0:Int) (9:Int) p10),(Sapi_Kind.mk ([97] : Str) (0:Int) (9:Int) [(Sapi_Field.mk ([107] : Str) ([] : Str) ([] : Str) (0:Int) (0:Int) (0:Int) ([] : (List Str)) ([] : (List Int))),(Sapi_Field.mk ([110] : Str) ([] : Str) ([] : Str) (2:Int) (0:Int) (5:Int) ([] : (List Str)) ([] : (List Int)))])] ([] : (List Sapi_Life)) ([] : (List Sapi_Rule)))) (n0 0)] a w := ((hst.pick [7]).selA [1] rfl)
   refine hK14 _ _ ?_
   try clear hK14 K14
   refine wp_ret ?_
   obtain rfl := sj h
   exact ret_st undef [] hpl hst rfl (.cell (R := rSapi_Schema) (u := (Sapi_Schema.mk (0:Int) [(Sapi_Kind.mk ([98] : Str) (0:Int) (9:Int) p10),(Sapi_Kind.mk ([97] : Str) (0:Int) (9:Int) [(Sapi_Field.mk ([107] : Str) ([] : Str) ([] : Str) (0:Int) (0:Int) (0:Int) ([] : (List Str)) ([] : (List Int))),(Sapi_Field.mk ([110] : Str) ([] : Str) ([] : Str) (2:Int) (0:Int) (5:Int) ([] : (List Str)) ([] : (List Int)))])] ([] : (List Sapi_Life)) ([] : (List Sapi_Rule)))) tok34 (.t 0 rfl) 0 rfl rfl .nil) rfl rfl rfl
  ·replace h := ite_f b16 h
   refine wp_skip ?_
   refine hK12 _ _ ?_
   try clear hK12 K12
   refine wp_seq_k (fun K15 hK15 => ?_)
   replace hst : St M w0 30 [(21,tb turned_),(6,tv (n2 5)),(5,tptr (rSapi_Kind.cs (Sapi_Kind.mk ([97] : Str) (0:Int) (9:Int) [(Sapi_Field.mk ([107] : Str) ([] : Str) ([] : Str) (0:Int) (0:Int) (0:Int) ([] : (List Str)) ([] : (List Int))),(Sapi_Field.mk ([110] : Str) ([] : Str) ([] : Str) (2:Int) (0:Int) (5:Int) ([] : (List Str)) ([] : (List Int)))]))),(4,tv (n0 0))] [box (rSapi_Kind.cs (Sapi_Kind.mk ([98] : Str) (0:Int) (9:Int) p10)) (n2 5),box (rSapi_Schema.cs (Sapi_Schema.mk (0:Int) ([] : (List Sapi_Kind)) ([] : (List Sapi_Life)) ([] : (List Sapi_Rule)))) (n0 0)] a w := ((hst.pick [0,1,2,3]).selA [2,1,0] rfl).shareC 3 rfl
   refine wp_reg mixed [v0 (box (rSapi_Schema.cs (Sapi_Schema.mk (0:Int) [(Sapi_Kind.mk ([97] : Str) (0:Int) (9:Int) [(Sapi_Field.mk ([107] : Str) ([] : Str) ([] : Str) (0:Int) (0:Int) (0:Int) ([] : (List Str)) ([] : (List Int))),(Sapi_Field.mk ([110] : Str) ([] : Str) ([] : Str) (2:Int) (0:Int) (5:Int) ([] : (List Str)) ([] : (List Int)))]),(Sapi_Kind.mk ([98] : Str) (0:Int) (9:Int) p10)] ([] : (List Sapi_Life)) ([] : (List Sapi_Rule)))) (n0 0))] hst (fun _ => .p rfl (op_load tok47 (.t 2 rfl)) <| .u [0] rfl rfl (op_loadB (R := rSapi_Kind) (u := (Sapi_Kind.mk ([98] : Str) (0:Int) (9:Int) p10)) tok47 (.t 2 rfl) rfl) <| .p rfl (op_buildSl (R := rSapi_Kind) (us := [(Sapi_Kind.mk ([97] : Str) (0:Int) (9:Int) [(Sapi_Field.mk ([107] : Str) ([] : Str) ([] : Str) (0:Int) (0:Int) (0:Int) ([] : (List Str)) ([] : (List Int))),(Sapi_Field.mk ([110] : Str) ([] : Str) ([] : Str) (2:Int) (0:Int) (5:Int) ([] : (List Str)) ([] : (List Int)))]),(Sapi_Kind.mk ([98] : Str) (0:Int) (9:Int) p10)]) Tryz.underlying30 tok47 (.cons (.t 1 rfl) <| .cons (.t 0 rfl) <| .nil _) rfl (leb rfl)) <| .p (T := rSapi_Schema.ty (Sapi_Schema.mk (0:Int) [(Sapi_Kind.mk ([97] : Str) (0:Int) (9:Int) [(Sapi_Field.mk ([107] : Str) ([] : Str) ([] : Str) (0:Int) (0:Int) (0:Int) ([] : (List Str)) ([] : (List Int))),(Sapi_Field.mk ([110] : Str) ([] : Str) ([] : Str) (2:Int) (0:Int) (5:Int) ([] : (List Str)) ([] : (List Int)))]),(Sapi_Kind.mk ([98] : Str) (0:Int) (9:Int) p10)] ([] : (List Sapi_Life)) ([] : (List Sapi_Rule)))) rfl (op_build Tryz.underlying34 pl34 zv34 zc34 (.cons (R := (rSl rSapi_Kind)) (u := [(Sapi_Kind.mk ([97] : Str) (0:Int) (9:Int) [(Sapi_Field.mk ([107] : Str) ([] : Str) ([] : Str) (0:Int) (0:Int) (0:Int) ([] : (List Str)) ([] : (List Int))),(Sapi_Field.mk ([110] : Str) ([] : Str) ([] : Str) (2:Int) (0:Int) (5:Int) ([] : (List Str)) ([] : (List Int)))]),(Sapi_Kind.mk ([98] : Str) (0:Int) (9:Int) p10)]) rfl (.t 0 rfl) (leb rfl) <| .nil _)) <| .e [] [1] [2] rfl rfl rfl rfl (op_storeB (R := rSapi_Schema) (a := (Sapi_Schema.mk (0:Int) [(Sapi_Kind.mk ([97] : Str) (0:Int) (9:Int) [(Sapi_Field.mk ([107] : Str) ([] : Str) ([] : Str) (0:Int) (0:Int) (0:Int) ([] : (List Str)) ([] : (List Int))),(Sapi_Field.mk ([110] : Str) ([] : Str) ([] : Str) (2:Int) (0:Int) (5:Int) ([] : (List Str)) ([] : (List Int)))]),(Sapi_Kind.mk ([98] : Str) (0:Int) (9:Int) p10)] ([] : (List Sapi_Life)) ([] : (List Sapi_Rule)))) tok34 (.t 7 rfl) (.t 0 rfl) (leb rfl)) <| .nil _ _) (by kernel_rfl) (fun n7 a w hst => ?_)
   replace hst : St M w0 30 [(4,tv (n0 0))] [box (rSapi_Schema.cs (Sapi_Schema.mk (0:Int) [(Sapi_Kind.mk ([97] : Str) (0:Int) (9:Int) [(Sapi_Field.mk ([107] : Str) ([] : Str) ([] : Str) (0:Int) (0:Int) (0:Int) ([] : (List Str)) ([] : (List Int))),(Sapi_Field.mk ([110] : Str) ([] : Str) ([] : Str) (2:Int) (0:Int) (5:Int) ([] : (List Str)) ([] : (List Int)))]),(Sapi_Kind.mk ([98] : Str) (0:Int) (9:Int) p10)] ([] : (List Sapi_Life)) ([] : (List Sapi_Rule)))) (n0 0)] a w := ((hst.pick [7]).selA [1] rfl)
   refine hK15 _ _ ?_
   try clear hK15 K15
   refine wp_ret ?_
   obtain rfl := sj h
   exact ret_st undef [] hpl hst rfl (.cell (R := rSapi_Schema) (u := (Sapi_Schema.mk (0:Int) [(Sapi_Kind.mk ([97] : Str) (0:Int) (9:Int) [(Sapi_Field.mk ([107] : Str) ([] : Str) ([] : Str) (0:Int) (0:Int) (0:Int) ([] : (List Str)) ([] : (List Int))),(Sapi_Field.mk ([110] : Str) ([] : Str) ([] : Str) (2:Int) (0:Int) (5:Int) ([] : (List Str)) ([] : (List Int)))]),(Sapi_Kind.mk ([98] : Str) (0:Int) (9:Int) p10)] ([] : (List Sapi_Life)) ([] : (List Sapi_Rule)))) tok34 (.t 0 rfl) 0 rfl rfl .nil) rfl rfl rfl
 replace h := hp10
 clear hp10
 refine wp_test 0 hst rfl (fun b17 => ?_) (fun b17 => ?_)
 ·replace h := ite_t b17 h
  obtain ⟨t19,ht19,h⟩ := bind_some h
  obtain ⟨t19s,ht19s,h⟩ := bind_some h
  refine wp_reg mixed [v0 (own rSapi_Field 44 t19s (n2 3))] hst (fun _ => .u [2] rfl rfl (op_fieldB fld47_3 (.t 2 rfl)) <| .u [2] rfl rfl (op_loadBVf (u := (n2 3)) tokV45 (.t 0 rfl) rfl) <| .u [1] rfl rfl (op_indexOi Tryz.underlying45 tok44 (.t 0 rfl) .k ht19) <| .u [1] rfl rfl (op_fieldO fld44_1 (.t 0 rfl) (idx_ne ht19)) <| .e [] [1] [3] rfl rfl rfl rfl (op_storeOf (u := { t19 with Of := ([110] : Str) }) tok9 (.t 0 rfl) .k ht19 ht19s (leb rfl) rfl) <| .nil _ _) (by kernel_rfl) (fun n4 a w hst => ?_)
  replace hst : St M w0 30 [(18,tv (n2 3)),(14,tv (n2 3)),(6,tv (n2 5)),(5,tptr (rSapi_Kind.cs (Sapi_Kind.mk ([97] : Str) (0:Int) (9:Int) [(Sapi_Field.mk ([107] : Str) ([] : Str) ([] : Str) (0:Int) (0:Int) (0:Int) ([] : (List Str)) ([] : (List Int))),(Sapi_Field.mk ([110] : Str) ([] : Str) ([] : Str) (2:Int) (0:Int) (5:Int) ([] : (List Str)) ([] : (List Int)))]))),(4,tv (n0 0)),(1,tb turned_)] [box (rSapi_Schema.cs (Sapi_Schema.mk (0:Int) ([] : (List Sapi_Kind)) ([] : (List Sapi_Life)) ([] : (List Sapi_Rule)))) (n0 0),box ([tv (.string (sB ([98] : Str))),ti (0:Int),ti (9:Int),tvs (n2 3)]) (n2 5),own rSapi_Field 44 t19s (n2 3)] a w := (hst.pick [1,5,6,7,8,9])
  obtain rfl := sj h
  exact hJp10 _ _ (hst.pick [2,3,4,5])
 ·replace h := ite_f b17 h
  refine wp_skip ?_
  obtain rfl := sj h
  exact hJp10 _ _ ((hst.pick [2,3,4,5]).selA [0,2,1] rfl)

/- diorama/schema.within -/
noncomputable def fschema_within (n_ : Int) (least_ : Int) (most_ : Int) : Option (Bool) := (some ((decide (n_ ≥ least_)) && (decide (n_ ≤ most_))))
set_option maxRecDepth 100000 in
set_option maxHeartbeats 4000000 in
theorem schema_within_ok {n_ : Int} {least_ : Int} {most_ : Int} {r : Bool} (h : fschema_within n_ least_ most_ = some r) : FnOk Tryz.prog 73 [ti n_,ti least_,ti most_] [] (fun _ => []) (fun _ => tb r) := by
 unfold fschema_within at h
 refine FnOk.enter Tryz.func73 rfl Tryz.ntmps73 (leb rfl) (fun M0 M w0 a hpl hst => ?_)
 replace hst : St M w0 15 [(0,ti n_),(1,ti least_),(2,ti most_)] [] a w0 := hst
 refine wp_seq_k (fun K1 hK1 => ?_)
 refine wp_reg mixed [] hst (fun _ => .p rfl (op_assign .k) <| .nil _ _) (by kernel_rfl) (fun n0 a w hst => ?_)
 replace hst : St M w0 15 [(0,ti n_),(1,ti least_),(2,ti most_)] [] a w := (hst.pick [1,2,3])
 refine hK1 _ _ ?_
 try clear hK1 K1
 refine wp_seq_k (fun K2 hK2 => ?_)
 refine wp_reg mixed [] hst (fun _ => .q 0 rfl <| .q 2 rfl <| .p rfl (op_geq (.t 1 rfl) (.t 0 rfl)) <| .q 0 rfl <| .g rfl rfl (.b 0 rfl) (fun _ => op_move (.t 4 rfl)) <| .g rfl rfl (.b 1 rfl) (fun _ => op_move (.t 7 rfl)) <| .g rfl rfl (.b 2 rfl) (fun hc => op_leq (.cond (.t 1 rfl) hc) (.cond (.t 0 rfl) hc)) <| .p rfl (op_and (.t 3 rfl) (fun hp => (.cond (.t 0 rfl) (beqT hp)))) <| .p rfl (op_assign (.t 0 rfl)) <| .nil _ _) (by kernel_rfl) (fun n1 a w hst => ?_)
 replace hst : St M w0 15 [(6,tb ((decide (n_ ≥ least_)) && (decide (n_ ≤ most_))))] [] a w := (hst.pick [8])
 refine hK2 _ _ ?_
 try clear hK2 K2
 refine wp_ret ?_
 obtain rfl := sj h
 exact ret_st undef [] hpl hst rfl (.tmp (.t 0 rfl) .nil) rfl rfl rfl

/- diorama/schema.all[diorama/api.Kind]$1 -/
noncomputable def fschema_all_Kindq1 (x_ : Sapi_Kind) (c0_ : (Sapi_Kind → Option Bool)) : Option (Bool) := (c0_ x_).bind fun t6 => (some (!t6))
set_option maxRecDepth 100000 in
set_option maxHeartbeats 4000000 in
theorem schema_all_Kindq1_ok {x_ : Sapi_Kind} {c0_ : (Sapi_Kind → Option Bool)} {r : Bool} (h : fschema_all_Kindq1 x_ c0_ = some r) : FnOk Tryz.prog 104 [rSapi_Kind.ty x_,tptr (rF90.cs c0_)] [] (fun _ => []) (fun _ => tb r) := by
 unfold fschema_all_Kindq1 at h
 refine FnOk.enter Tryz.func104 rfl Tryz.ntmps104 (leb rfl) (fun M0 M w0 a hpl hst => ?_)
 replace hst : St M w0 8 [(0,rSapi_Kind.ty x_),(1,tptr (rF90.cs c0_))] [] a w0 := hst
 refine wp_seq_k (fun K1 hK1 => ?_)
 refine wp_reg mixed [] hst (fun _ => .p rfl (op_boxR (R := rSapi_Kind) (u := x_) (.t 0 rfl)) <| .p rfl (op_assign .k) <| .nil _ _) (by kernel_rfl) (fun n0 a w hst => ?_)
 replace hst : St M w0 8 [(2,tptr (rSapi_Kind.cs x_)),(1,tptr (rF90.cs c0_))] [] a w := (hst.pick [0,3])
 refine hK1 _ _ ?_
 try clear hK1 K1
 refine wp_seq_k (fun K2 hK2 => ?_)
 obtain ⟨t6,ht6,h⟩ := bind_some h
 refine wp_reg mixed [] hst (fun _ => .p rfl (op_load tok90 (.t 1 rfl)) <| .p rfl (op_load tok47 (.t 1 rfl)) <| .p rfl (op_callT (u := x_) (.t 1 rfl) (.cons (.of (.t 0 rfl)) <| .nil) ht6) <| .p rfl (op_not (.t 0 rfl)) <| .p rfl (op_assign (.t 0 rfl)) <| .nil _ _) (by kernel_rfl) (fun n1 a w hst => ?_)
 replace hst : St M w0 8 [(3,tb (!t6))] [] a w := (hst.pick [4])
 refine hK2 _ _ ?_
 try clear hK2 K2
 refine wp_ret ?_
 obtain rfl := sj h
 exact ret_st undef [] hpl hst rfl (.tmp (.t 0 rfl) .nil) rfl rfl rfl

/- slices.ContainsFunc[[]diorama/api.Kind,diorama/api.Kind] -/
noncomputable def fslices_ContainsFunc_Kind (s_ : (List Sapi_Kind)) (f_ : (Sapi_Kind → Option Bool)) : Option (Bool) := (fslices_IndexFunc_Kind s_ f_).bind fun t7 => (some (decide (t7 ≥ (0:Int))))
set_option maxRecDepth 100000 in
set_option maxHeartbeats 4000000 in
theorem slices_ContainsFunc_Kind_ok {s_ : (List Sapi_Kind)} {f_ : (Sapi_Kind → Option Bool)} {r : Bool} (h : fslices_ContainsFunc_Kind s_ f_ = some r) : FnOk Tryz.prog 103 [tsl rSapi_Kind s_,rF90.ty f_] [] (fun _ => []) (fun _ => tb r) := by
 unfold fslices_ContainsFunc_Kind at h
 refine FnOk.enter Tryz.func103 rfl Tryz.ntmps103 (leb rfl) (fun M0 M w0 a hpl hst => ?_)
 replace hst : St M w0 9 [(0,tsl rSapi_Kind s_),(1,rF90.ty f_)] [] a w0 := hst
 refine wp_seq_k (fun K1 hK1 => ?_)
 refine wp_reg mixed [] hst (fun _ => .p rfl (op_assign .k) <| .nil _ _) (by kernel_rfl) (fun n0 a w hst => ?_)
 replace hst : St M w0 9 [(0,tsl rSapi_Kind s_),(1,rF90.ty f_)] [] a w := (hst.pick [1,2])
 refine hK1 _ _ ?_
 try clear hK1 K1
 refine wp_seq_k (fun K2 hK2 => ?_)
 obtain ⟨t7,ht7,h⟩ := bind_some h
 refine wp_reg mixed [] hst (fun _ => .q 0 rfl <| .q 2 rfl <| .p rfl (op_callF call47 (slices_IndexFunc_Kind_ok ht7) (.cons (.of (.t 1 rfl)) <| .cons (.of (.t 0 rfl)) <| .nil)) <| .p rfl (op_geq (.t 0 rfl) .k) <| .p rfl (op_assign (.t 0 rfl)) <| .nil _ _) (by kernel_rfl) (fun n1 a w hst => ?_)
 replace hst : St M w0 9 [(4,tb (decide (t7 ≥ (0:Int))))] [] a w := (hst.pick [4])
 refine hK2 _ _ ?_
 try clear hK2 K2
 refine wp_ret ?_
 obtain rfl := sj h
 exact ret_st undef [] hpl hst rfl (.tmp (.t 0 rfl) .nil) rfl rfl rfl

/- diorama/schema.all[diorama/api.Kind] -/
noncomputable def fschema_all_Kind (l_ : (List Sapi_Kind)) (right_ : (Sapi_Kind → Option Bool)) : Option (Bool) := (fslices_ContainsFunc_Kind l_ (fun x0 => fschema_all_Kindq1 x0 right_)).bind fun t7 => (some (!t7))
set_option maxRecDepth 100000 in
set_option maxHeartbeats 4000000 in
theorem schema_all_Kind_ok {l_ : (List Sapi_Kind)} {right_ : (Sapi_Kind → Option Bool)} {r : Bool} (h : fschema_all_Kind l_ right_ = some r) : FnOk Tryz.prog 74 [tsl rSapi_Kind l_,rF90.ty right_] [] (fun _ => []) (fun _ => tb r) := by
 unfold fschema_all_Kind at h
 refine FnOk.enter Tryz.func74 rfl Tryz.ntmps74 (leb rfl) (fun M0 M w0 a hpl hst => ?_)
 replace hst : St M w0 9 [(0,tsl rSapi_Kind l_),(1,rF90.ty right_)] [] a w0 := hst
 refine wp_seq_k (fun K1 hK1 => ?_)
 refine wp_reg mixed [] hst (fun _ => .p rfl (op_boxR (R := rF90) (u := right_) (.t 1 rfl)) <| .p rfl (op_assign .k) <| .nil _ _) (by kernel_rfl) (fun n0 a w hst => ?_)
 replace hst : St M w0 9 [(3,tptr (rF90.cs right_)),(0,tsl rSapi_Kind l_)] [] a w := (hst.pick [0,2])
 refine hK1 _ _ ?_
 try clear hK1 K1
 refine wp_seq_k (fun K2 hK2 => ?_)
 obtain ⟨t7,ht7,h⟩ := bind_some h
 refine wp_reg mixed [] hst (fun _ => .q 1 rfl <| .p rfl (op_clo (.cons (.t 1 rfl) <| .nil)) <| .p rfl (op_callF call103 (slices_ContainsFunc_Kind_ok ht7) (.cons (.of (.t 1 rfl)) <| .cons (.of (Fct.weak (.t 0 rfl) (tfn_of call104 (fun _ _ hq => schema_all_Kindq1_ok hq)))) <| .nil)) <| .p rfl (op_not (.t 0 rfl)) <| .p rfl (op_assign (.t 0 rfl)) <| .nil _ _) (by kernel_rfl) (fun n1 a w hst => ?_)
 replace hst : St M w0 9 [(4,tb (!t7))] [] a w := (hst.pick [4])
 refine hK2 _ _ ?_
 try clear hK2 K2
 refine wp_ret ?_
 obtain rfl := sj h
 exact ret_st undef [] hpl hst rfl (.tmp (.t 0 rfl) .nil) rfl rfl rfl

/- diorama/schema.isLetter -/
noncomputable def fschema_isLetter (c_ : Int) : Option (Bool) := (some ((decide (c_ ≥ (97:Int))) && (decide (c_ ≤ (122:Int)))))
set_option maxRecDepth 100000 in
set_option maxHeartbeats 4000000 in
theorem schema_isLetter_ok {c_ : Int} {r : Bool} (h : fschema_isLetter c_ = some r) : FnOk Tryz.prog 134 [tv (.int .u8 c_)] [] (fun _ => []) (fun _ => tb r) := by
 unfold fschema_isLetter at h
 refine FnOk.enter Tryz.func134 rfl Tryz.ntmps134 (leb rfl) (fun M0 M w0 a hpl hst => ?_)
 replace hst : St M w0 9 [(0,tv (.int .u8 c_))] [] a w0 := hst
 refine wp_seq_k (fun K1 hK1 => ?_)
 refine wp_reg mixed [] hst (fun _ => .p rfl (op_assign .k) <| .nil _ _) (by kernel_rfl) (fun n0 a w hst => ?_)
 replace hst : St M w0 9 [(0,tv (.int .u8 c_))] [] a w := (hst.pick [1])
 refine hK1 _ _ ?_
 try clear hK1 K1
 refine wp_seq_k (fun K2 hK2 => ?_)
 refine wp_reg mixed [] hst (fun _ => .q 0 rfl <| .p rfl (op_geq (.t 0 rfl) .k) <| .q 0 rfl <| .g rfl rfl (.b 0 rfl) (fun _ => op_move (.t 3 rfl)) <| .g rfl rfl (.b 1 rfl) (fun hc => op_leq (.cond (.t 0 rfl) hc) .k) <| .p rfl (op_and (.t 2 rfl) (fun hp => (.cond (.t 0 rfl) (beqT hp)))) <| .p rfl (op_assign (.t 0 rfl)) <| .nil _ _) (by kernel_rfl) (fun n1 a w hst => ?_)
 replace hst : St M w0 9 [(2,tb ((decide (c_ ≥ (97:Int))) && (decide (c_ ≤ (122:Int)))))] [] a w := (hst.pick [6])
 refine hK2 _ _ ?_
 try clear hK2 K2
 refine wp_ret ?_
 obtain rfl := sj h
 exact ret_st undef [] hpl hst rfl (.tmp (.t 0 rfl) .nil) rfl rfl rfl

/- slices.IndexFunc[[]byte,byte] -/
noncomputable def fslices_IndexFunc_byte (s_ : (List Int)) (f_ : (Int → Option Bool)) : Option (Int) := (tailrec (fun (s4 : Int) => ((if (decide (s4 < (s_.length : Int))) = true then (idx s_ s4).bind fun t14 => (f_ t14).bind fun t16 => (if t16 = true then (some (.inr (.inr s4))) else (some (.inl (IntKind.i64.wrap (s4 + (1:Int)))))) else (some (.inr (.inl ())))) : Option ((Int) ⊕ ((Unit) ⊕ (Int))))) (0:Int)).bind fun (e5 : (Unit) ⊕ (Int)) => (match e5 with | .inl p22 => (some (-1:Int)) | .inr p23 => (some p23))
set_option maxRecDepth 100000 in
set_option maxHeartbeats 4000000 in
theorem slices_IndexFunc_byte_ok {s_ : (List Int)} {f_ : (Int → Option Bool)} {r : Int} (h : fslices_IndexFunc_byte s_ f_ = some r) : FnOk Tryz.prog 160 [tsl (rInt .u8) s_,rF170.ty f_] [] (fun _ => []) (fun _ => ti r) := by
 unfold fslices_IndexFunc_byte at h
 refine FnOk.enter Tryz.func160 rfl Tryz.ntmps160 (leb rfl) (fun M0 M w0 a hpl hst => ?_)
 replace hst : St M w0 19 [(0,tsl (rInt .u8) s_),(1,rF170.ty f_)] [] a w0 := hst
 refine wp_seq_k (fun K1 hK1 => ?_)
 refine wp_reg mixed [] hst (fun _ => .p rfl (op_assign .k) <| .nil _ _) (by kernel_rfl) (fun n0 a w hst => ?_)
 replace hst : St M w0 19 [(0,tsl (rInt .u8) s_),(1,rF170.ty f_)] [] a w := (hst.pick [1,2])
 refine hK1 _ _ ?_
 try clear hK1 K1
 refine wp_seq_k (fun K2 hK2 => ?_)
 refine wp_seq_k (fun K3 hK3 => ?_)
 refine wp_reg mixed [] hst (fun _ => .q 0 rfl <| .p rfl (op_len Tryz.underlying149 (.t 0 rfl)) <| .p rfl (op_move .k) <| .nil _ _) (by kernel_rfl) (fun n1 a w hst => ?_)
 replace hst : St M w0 19 [(7,ti (s_.length : Int)),(8,ti (0:Int)),(0,tsl (rInt .u8) s_),(1,rF170.ty f_)] [] a w := (hst.pick [1,2,3,4])
 refine hK3 _ _ ?_
 try clear hK3 K3
 obtain ⟨e5,he5,h⟩ := bind_some h
 have hJp22 : ∀ (p22 : Unit) a w,(.inl p22) = e5 → St M w0 19 [] [] a w → K2 a w := by
  intro p22 a w he hst
  subst he
  simp only at h
  refine hK2 _ _ ?_
  try clear hK2 K2
  refine wp_seq_k (fun K24 hK24 => ?_)
  refine wp_reg mixed [] hst (fun _ => .p rfl (op_assign .k) <| .nil _ _) (by kernel_rfl) (fun n7 a w hst => ?_)
  replace hst : St M w0 19 [(4,ti (-1:Int))] [] a w := (hst.pick [0])
  refine hK24 _ _ ?_
  try clear hK24 K24
  refine wp_ret ?_
  obtain rfl := sj h
  exact ret_st undef [] hpl hst rfl (.tmp (.t 0 rfl) .nil) rfl rfl rfl
 have hJp23 : ∀ (p23 : Int) a w,(.inr p23) = e5 → St M w0 19 [(4,ti p23)] [] a w → Ret Tryz.prog Tryz.f160 M0 [] w0 (fun _ => []) (fun _ => ti r) .ret a w := by
  intro p23 a w he hst
  subst he
  simp only at h
  obtain rfl := sj h
  exact ret_st undef [] hpl hst rfl (.tmp (.t 0 rfl) .nil) rfl rfl rfl
 refine wp_block ?_
 refine wp_loopK _ (fun (s4 : Int) a w => St M w0 19 [(7,ti (s_.length : Int)),(8,ti s4),(0,tsl (rInt .u8) s_),(1,rF170.ty f_)] [] a w) _ _ he5 (hst.pick [0,1,2,3]) ?_
 clear h
 intro s4 o a w K25 hI h ho hK25
 have hst := hI
 clear hI
 refine wp_seq_k (fun K26 hK26 => ?_)
 refine wp_reg mixed [] hst (fun _ => .p rfl (op_lss (.t 1 rfl) (.t 0 rfl)) <| .nil _ _) (by kernel_rfl) (fun n2 a w hst => ?_)
 replace hst : St M w0 19 [(9,tb (decide (s4 < (s_.length : Int)))),(7,ti (s_.length : Int)),(8,ti s4),(0,tsl (rInt .u8) s_),(1,rF170.ty f_)] [] a w := (hst.pick [0,1,2,3,4])
 refine hK26 _ _ ?_
 try clear hK26 K26
 refine wp_seq_k (fun K27 hK27 => ?_)
 refine wp_test 0 hst rfl (fun b33 => ?_) (fun b33 => ?_)
 ·replace h := ite_t b33 h
  refine wp_skip ?_
  refine hK27 _ _ ?_
  try clear hK27 K27
  refine wp_seq_k (fun K28 hK28 => ?_)
  refine wp_block ?_
  refine wp_seq_k (fun K29 hK29 => ?_)
  refine wp_reg mixed [] hst (fun _ => .q 2 rfl <| .p rfl (op_assign (.t 0 rfl)) <| .nil _ _) (by kernel_rfl) (fun n3 a w hst => ?_)
  replace hst : St M w0 19 [(5,ti s4),(7,ti (s_.length : Int)),(8,ti s4),(0,tsl (rInt .u8) s_),(1,rF170.ty f_)] [] a w := (hst.pick [1,3,4,5,6])
  refine hK29 _ _ ?_
  try clear hK29 K29
  refine wp_seq_k (fun K30 hK30 => ?_)
  obtain ⟨t14,ht14,h⟩ := bind_some h
  obtain ⟨t16,ht16,h⟩ := bind_some h
  refine wp_reg mixed [] hst (fun _ => .q 4 rfl <| .q 4 rfl <| .q 2 rfl <| .p rfl (op_index Tryz.underlying149 tok5 (.t 1 rfl) (.t 0 rfl) ht14) <| .p rfl (op_load tok5 (.t 0 rfl)) <| .p rfl (op_callT (u := t14) (.t 4 rfl) (.cons (.of (.t 0 rfl)) <| .nil) ht16) <| .nil _ _) (by kernel_rfl) (fun n4 a w hst => ?_)
  replace hst : St M w0 19 [(16,tb t16),(5,ti s4),(7,ti (s_.length : Int)),(8,ti s4),(0,tsl (rInt .u8) s_),(1,rF170.ty f_)] [] a w := (hst.pick [5,6,7,8,9,10])
  refine hK30 _ _ ?_
  try clear hK30 K30
  refine wp_test 0 hst rfl (fun b32 => ?_) (fun b32 => ?_)
  ·replace h := ite_t b32 h
   refine wp_seq_k (fun K31 hK31 => ?_)
   refine wp_reg mixed [] hst (fun _ => .q 1 rfl <| .p rfl (op_assign (.t 0 rfl)) <| .nil _ _) (by kernel_rfl) (fun n5 a w hst => ?_)
   replace hst : St M w0 19 [(4,ti s4)] [] a w := (hst.pick [1])
   refine hK31 _ _ ?_
   try clear hK31 K31
   refine wp_ret ?_
   exact hJp23 _ _ _ (ho _ (sj h).symm) (hst.pick [0])
  ·replace h := ite_f b32 h
   refine wp_skip ?_
   refine hK28 _ _ ?_
   try clear hK28 K28
   refine wp_reg mixed [] hst (fun _ => .p rfl (op_add (.t 3 rfl) .k) <| .q 0 rfl <| .nil _ _) (by kernel_rfl) (fun n6 a w hst => ?_)
   replace hst : St M w0 19 [(8,ti (IntKind.i64.wrap (s4 + (1:Int)))),(7,ti (s_.length : Int)),(0,tsl (rInt .u8) s_),(1,rF170.ty f_)] [] a w := (hst.pick [1,4,5,6])
   exact hK25 _ _ _ (sj h).symm (hst.pick [1,0,2,3])
 ·replace h := ite_f b33 h
  refine wp_exit ?_
  exact hJp22 _ _ _ (ho _ (sj h).symm) (hst.pick [])

/- slices.ContainsFunc[[]byte,byte] -/
noncomputable def fslices_ContainsFunc_byte (s_ : (List Int)) (f_ : (Int → Option Bool)) : Option (Bool) := (fslices_IndexFunc_byte s_ f_).bind fun t7 => (some (decide (t7 ≥ (0:Int))))
set_option maxRecDepth 100000 in
set_option maxHeartbeats 4000000 in
theorem slices_ContainsFunc_byte_ok {s_ : (List Int)} {f_ : (Int → Option Bool)} {r : Bool} (h : fslices_ContainsFunc_byte s_ f_ = some r) : FnOk Tryz.prog 135 [tsl (rInt .u8) s_,rF170.ty f_] [] (fun _ => []) (fun _ => tb r) := by
 unfold fslices_ContainsFunc_byte at h
 refine FnOk.enter Tryz.func135 rfl Tryz.ntmps135 (leb rfl) (fun M0 M w0 a hpl hst => ?_)
 replace hst : St M w0 9 [(0,tsl (rInt .u8) s_),(1,rF170.ty f_)] [] a w0 := hst
 refine wp_seq_k (fun K1 hK1 => ?_)
 refine wp_reg mixed [] hst (fun _ => .p rfl (op_assign .k) <| .nil _ _) (by kernel_rfl) (fun n0 a w hst => ?_)
 replace hst : St M w0 9 [(0,tsl (rInt .u8) s_),(1,rF170.ty f_)] [] a w := (hst.pick [1,2])
 refine hK1 _ _ ?_
 try clear hK1 K1
 refine wp_seq_k (fun K2 hK2 => ?_)
 obtain ⟨t7,ht7,h⟩ := bind_some h
 refine wp_reg mixed [] hst (fun _ => .q 0 rfl <| .q 2 rfl <| .p rfl (op_callF call160 (slices_IndexFunc_byte_ok ht7) (.cons (.of (.t 1 rfl)) <| .cons (.of (.t 0 rfl)) <| .nil)) <| .p rfl (op_geq (.t 0 rfl) .k) <| .p rfl (op_assign (.t 0 rfl)) <| .nil _ _) (by kernel_rfl) (fun n1 a w hst => ?_)
 replace hst : St M w0 9 [(4,tb (decide (t7 ≥ (0:Int))))] [] a w := (hst.pick [4])
 refine hK2 _ _ ?_
 try clear hK2 K2
 refine wp_ret ?_
 obtain rfl := sj h
 exact ret_st undef [] hpl hst rfl (.tmp (.t 0 rfl) .nil) rfl rfl rfl

/- diorama/schema.isDigit -/
noncomputable def fschema_isDigit (c_ : Int) : Option (Bool) := (some ((decide (c_ ≥ (48:Int))) && (decide (c_ ≤ (57:Int)))))
set_option maxRecDepth 100000 in
set_option maxHeartbeats 4000000 in
theorem schema_isDigit_ok {c_ : Int} {r : Bool} (h : fschema_isDigit c_ = some r) : FnOk Tryz.prog 137 [tv (.int .u8 c_)] [] (fun _ => []) (fun _ => tb r) := by
 unfold fschema_isDigit at h
 refine FnOk.enter Tryz.func137 rfl Tryz.ntmps137 (leb rfl) (fun M0 M w0 a hpl hst => ?_)
 replace hst : St M w0 9 [(0,tv (.int .u8 c_))] [] a w0 := hst
 refine wp_seq_k (fun K1 hK1 => ?_)
 refine wp_reg mixed [] hst (fun _ => .p rfl (op_assign .k) <| .nil _ _) (by kernel_rfl) (fun n0 a w hst => ?_)
 replace hst : St M w0 9 [(0,tv (.int .u8 c_))] [] a w := (hst.pick [1])
 refine hK1 _ _ ?_
 try clear hK1 K1
 refine wp_seq_k (fun K2 hK2 => ?_)
 refine wp_reg mixed [] hst (fun _ => .q 0 rfl <| .p rfl (op_geq (.t 0 rfl) .k) <| .q 0 rfl <| .g rfl rfl (.b 0 rfl) (fun _ => op_move (.t 3 rfl)) <| .g rfl rfl (.b 1 rfl) (fun hc => op_leq (.cond (.t 0 rfl) hc) .k) <| .p rfl (op_and (.t 2 rfl) (fun hp => (.cond (.t 0 rfl) (beqT hp)))) <| .p rfl (op_assign (.t 0 rfl)) <| .nil _ _) (by kernel_rfl) (fun n1 a w hst => ?_)
 replace hst : St M w0 9 [(2,tb ((decide (c_ ≥ (48:Int))) && (decide (c_ ≤ (57:Int)))))] [] a w := (hst.pick [6])
 refine hK2 _ _ ?_
 try clear hK2 K2
 refine wp_ret ?_
 obtain rfl := sj h
 exact ret_st undef [] hpl hst rfl (.tmp (.t 0 rfl) .nil) rfl rfl rfl

/- diorama/schema.isName$1 -/
noncomputable def fschema_isNameq1 (c_ : Int) : Option (Bool) := (fschema_isLetter c_).bind fun t4 => (opt ((!t4) == true) (fschema_isDigit c_) default).bind fun t8 => (some ((!t4) && (!t8)))
set_option maxRecDepth 100000 in
set_option maxHeartbeats 4000000 in
theorem schema_isNameq1_ok {c_ : Int} {r : Bool} (h : fschema_isNameq1 c_ = some r) : FnOk Tryz.prog 136 [tv (.int .u8 c_)] [] (fun _ => []) (fun _ => tb r) := by
 unfold fschema_isNameq1 at h
 refine FnOk.enter Tryz.func136 rfl Tryz.ntmps136 (leb rfl) (fun M0 M w0 a hpl hst => ?_)
 replace hst : St M w0 11 [(0,tv (.int .u8 c_))] [] a w0 := hst
 refine wp_seq_k (fun K1 hK1 => ?_)
 refine wp_reg mixed [] hst (fun _ => .p rfl (op_assign .k) <| .nil _ _) (by kernel_rfl) (fun n0 a w hst => ?_)
 replace hst : St M w0 11 [(0,tv (.int .u8 c_))] [] a w := (hst.pick [1])
 refine hK1 _ _ ?_
 try clear hK1 K1
 refine wp_seq_k (fun K2 hK2 => ?_)
 obtain ⟨t4,ht4,h⟩ := bind_some h
 obtain ⟨t8,ht8,h⟩ := bind_some h
 refine wp_reg mixed [] hst (fun _ => .q 0 rfl <| .p rfl (op_callF call134 (schema_isLetter_ok ht4) (.cons (.of (.t 0 rfl)) <| .nil)) <| .p rfl (op_not (.t 0 rfl)) <| .q 0 rfl <| .g rfl rfl (.b 0 rfl) (fun _ => op_move (.t 4 rfl)) <| .g rfl rfl (.b 1 rfl) (fun hc => op_callF call137 (schema_isDigit_ok (opt_t ht8 hc)) (.cons (.of (.cond (.t 0 rfl) hc)) <| .nil)) <| .g rfl rfl (.b 2 rfl) (fun hc => op_not (.cond (.t 0 rfl) hc)) <| .p rfl (op_and (.t 3 rfl) (fun hp => (.cond (.t 0 rfl) (beqT hp)))) <| .p rfl (op_assign (.t 0 rfl)) <| .nil _ _) (by kernel_rfl) (fun n1 a w hst => ?_)
 replace hst : St M w0 11 [(2,tb ((!t4) && (!t8)))] [] a w := (hst.pick [8])
 refine hK2 _ _ ?_
 try clear hK2 K2
 refine wp_ret ?_
 obtain rfl := sj h
 exact ret_st undef [] hpl hst rfl (.tmp (.t 0 rfl) .nil) rfl rfl rfl

/- diorama/schema.isName -/
noncomputable def fschema_isName (s_ : Str) : Option (Bool) := (fschema_within (s_.length : Int) (1:Int) (12:Int)).bind fun t5 => (opt ((!t5) == false) (idx s_ (0:Int)) default).bind fun t9 => (opt ((!t5) == false) (fschema_isLetter ((t9).toNat : Int)) default).bind fun t10 => (if ((!t5) || (!t10)) = true then (some false) else (fslices_ContainsFunc_byte (bytesOf s_) (fun x0 => fschema_isNameq1 x0)).bind fun t15 => (some (!t15)))
set_option maxRecDepth 100000 in
set_option maxHeartbeats 4000000 in
theorem schema_isName_ok {s_ : Str} {r : Bool} (h : fschema_isName s_ = some r) : FnOk Tryz.prog 105 [tv (.string (sB s_))] [] (fun _ => []) (fun _ => tb r) := by
 unfold fschema_isName at h
 refine FnOk.enter Tryz.func105 rfl Tryz.ntmps105 (leb rfl) (fun M0 M w0 a hpl hst => ?_)
 replace hst : St M w0 17 [(0,tv (.string (sB s_)))] [] a w0 := hst
 refine wp_seq_k (fun K1 hK1 => ?_)
 refine wp_reg mixed [] hst (fun _ => .p rfl (op_assign .k) <| .nil _ _) (by kernel_rfl) (fun n0 a w hst => ?_)
 replace hst : St M w0 17 [(0,tv (.string (sB s_)))] [] a w := (hst.pick [1])
 refine hK1 _ _ ?_
 try clear hK1 K1
 refine wp_seq_k (fun K2 hK2 => ?_)
 refine wp_seq_k (fun K3 hK3 => ?_)
 obtain ⟨t5,ht5,h⟩ := bind_some h
 obtain ⟨t9,ht9,h⟩ := bind_some h
 obtain ⟨t10,ht10,h⟩ := bind_some h
 refine wp_reg mixed [] hst (fun _ => .q 0 rfl <| .p rfl (op_lenS' Tryz.underlying9 (.t 0 rfl)) <| .p rfl (op_callF call73 (schema_within_ok ht5) (.cons (.of (.t 0 rfl)) <| .cons (.of .k) <| .cons (.of .k) <| .nil)) <| .p rfl (op_not (.t 0 rfl)) <| .q 0 rfl <| .g rfl rfl (.b 0 rfl) (fun _ => op_move (.t 5 rfl)) <| .g rfl rfl (.b 1 rfl) (fun hc => op_idxS Tryz.underlying9 (.cond (.t 0 rfl) hc) .k (opt_t ht9 hc)) <| .g rfl rfl (.b 2 rfl) (fun hc => op_callF call134 (schema_isLetter_ok (opt_t ht10 hc)) (.cons (.of (.cond (.t 0 rfl) hc)) <| .nil)) <| .g rfl rfl (.b 3 rfl) (fun hc => op_not (.cond (.t 0 rfl) hc)) <| .p rfl (op_or (.t 4 rfl) (fun hp => (.cond (.t 0 rfl) (beqF hp)))) <| .nil _ _) (by kernel_rfl) (fun n1 a w hst => ?_)
 replace hst : St M w0 17 [(12,tb ((!t5) || (!t10))),(0,tv (.string (sB s_)))] [] a w := (hst.pick [9,10])
 refine hK3 _ _ ?_
 try clear hK3 K3
 refine wp_test 0 hst rfl (fun b6 => ?_) (fun b6 => ?_)
 ·replace h := ite_t b6 h
  refine wp_seq_k (fun K4 hK4 => ?_)
  refine wp_reg mixed [] hst (fun _ => .p rfl (op_assign .k) <| .nil _ _) (by kernel_rfl) (fun n2 a w hst => ?_)
  replace hst : St M w0 17 [(2,tb false)] [] a w := (hst.pick [0])
  refine hK4 _ _ ?_
  try clear hK4 K4
  refine wp_ret ?_
  obtain rfl := sj h
  exact ret_st undef [] hpl hst rfl (.tmp (.t 0 rfl) .nil) rfl rfl rfl
 ·replace h := ite_f b6 h
  refine wp_skip ?_
  refine hK2 _ _ ?_
  try clear hK2 K2
  refine wp_seq_k (fun K5 hK5 => ?_)
  obtain ⟨t15,ht15,h⟩ := bind_some h
  refine wp_reg mixed [] hst (fun _ => .q 1 rfl <| .p rfl (op_s2b Tryz.underlying9 Tryz.underlying149 Tryz.underlying5 (.t 0 rfl)) <| .p rfl (op_callF call135 (slices_ContainsFunc_byte_ok ht15) (.cons (.of (.t 0 rfl)) <| .cons (.of (Fct.weak .fnE (tfn_of call136 (fun _ _ hq => schema_isNameq1_ok hq)))) <| .nil)) <| .p rfl (op_not (.t 0 rfl)) <| .p rfl (op_assign (.t 0 rfl)) <| .nil _ _) (by kernel_rfl) (fun n3 a w hst => ?_)
  replace hst : St M w0 17 [(2,tb (!t15))] [] a w := (hst.pick [4])
  refine hK5 _ _ ?_
  try clear hK5 K5
  refine wp_ret ?_
  obtain rfl := sj h
  exact ret_st undef [] hpl hst rfl (.tmp (.t 0 rfl) .nil) rfl rfl rfl

/- diorama/schema.span -/
noncomputable def fschema_span (lo_ : Int) (hi_ : Int) (least_ : Int) (most_ : Int) : Option (Bool) := (some (((decide (lo_ ≥ least_)) && (decide (lo_ ≤ hi_))) && (decide (hi_ ≤ most_))))
set_option maxRecDepth 100000 in
set_option maxHeartbeats 4000000 in
theorem schema_span_ok {lo_ : Int} {hi_ : Int} {least_ : Int} {most_ : Int} {r : Bool} (h : fschema_span lo_ hi_ least_ most_ = some r) : FnOk Tryz.prog 106 [ti lo_,ti hi_,ti least_,ti most_] [] (fun _ => []) (fun _ => tb r) := by
 unfold fschema_span at h
 refine FnOk.enter Tryz.func106 rfl Tryz.ntmps106 (leb rfl) (fun M0 M w0 a hpl hst => ?_)
 replace hst : St M w0 22 [(0,ti lo_),(1,ti hi_),(2,ti least_),(3,ti most_)] [] a w0 := hst
 refine wp_seq_k (fun K1 hK1 => ?_)
 refine wp_reg mixed [] hst (fun _ => .p rfl (op_assign .k) <| .nil _ _) (by kernel_rfl) (fun n0 a w hst => ?_)
 replace hst : St M w0 22 [(0,ti lo_),(1,ti hi_),(2,ti least_),(3,ti most_)] [] a w := (hst.pick [1,2,3,4])
 refine hK1 _ _ ?_
 try clear hK1 K1
 refine wp_seq_k (fun K2 hK2 => ?_)
 refine wp_reg mixed [] hst (fun _ => .q 0 rfl <| .q 3 rfl <| .p rfl (op_geq (.t 1 rfl) (.t 0 rfl)) <| .q 0 rfl <| .g rfl rfl (.b 0 rfl) (fun _ => op_move (.t 4 rfl)) <| .g rfl rfl (.b 1 rfl) (fun _ => op_move (.t 6 rfl)) <| .g rfl rfl (.b 2 rfl) (fun hc => op_leq (.cond (.t 1 rfl) hc) (.cond (.t 0 rfl) hc)) <| .p rfl (op_and (.t 3 rfl) (fun hp => (.cond (.t 0 rfl) (beqT hp)))) <| .q 0 rfl <| .g rfl rfl (.b 0 rfl) (fun _ => op_move (.t 10 rfl)) <| .g rfl rfl (.b 1 rfl) (fun _ => op_move (.t 13 rfl)) <| .g rfl rfl (.b 2 rfl) (fun hc => op_leq (.cond (.t 1 rfl) hc) (.cond (.t 0 rfl) hc)) <| .p rfl (op_and (.t 3 rfl) (fun hp => (.cond (.t 0 rfl) (beqT hp)))) <| .p rfl (op_assign (.t 0 rfl)) <| .nil _ _) (by kernel_rfl) (fun n1 a w hst => ?_)
 replace hst : St M w0 22 [(8,tb (((decide (lo_ ≥ least_)) && (decide (lo_ ≤ hi_))) && (decide (hi_ ≤ most_))))] [] a w := (hst.pick [13])
 refine hK2 _ _ ?_
 try clear hK2 K2
 refine wp_ret ?_
 obtain rfl := sj h
 exact ret_st undef [] hpl hst rfl (.tmp (.t 0 rfl) .nil) rfl rfl rfl

/- diorama/schema.all[diorama/api.Field]$1 -/
noncomputable def fschema_all_Fieldq1 (x_ : Sapi_Field) (c0_ : (Sapi_Field → Option Bool)) : Option (Bool) := (c0_ x_).bind fun t6 => (some (!t6))
set_option maxRecDepth 100000 in
set_option maxHeartbeats 4000000 in
theorem schema_all_Fieldq1_ok {x_ : Sapi_Field} {c0_ : (Sapi_Field → Option Bool)} {r : Bool} (h : fschema_all_Fieldq1 x_ c0_ = some r) : FnOk Tryz.prog 139 [rSapi_Field.ty x_,tptr (rF92.cs c0_)] [] (fun _ => []) (fun _ => tb r) := by
 unfold fschema_all_Fieldq1 at h
 refine FnOk.enter Tryz.func139 rfl Tryz.ntmps139 (leb rfl) (fun M0 M w0 a hpl hst => ?_)
 replace hst : St M w0 8 [(0,rSapi_Field.ty x_),(1,tptr (rF92.cs c0_))] [] a w0 := hst
 refine wp_seq_k (fun K1 hK1 => ?_)
 refine wp_reg mixed [] hst (fun _ => .p rfl (op_boxR (R := rSapi_Field) (u := x_) (.t 0 rfl)) <| .p rfl (op_assign .k) <| .nil _ _) (by kernel_rfl) (fun n0 a w hst => ?_)
 replace hst : St M w0 8 [(2,tptr (rSapi_Field.cs x_)),(1,tptr (rF92.cs c0_))] [] a w := (hst.pick [0,3])
 refine hK1 _ _ ?_
 try clear hK1 K1
 refine wp_seq_k (fun K2 hK2 => ?_)
 obtain ⟨t6,ht6,h⟩ := bind_some h
 refine wp_reg mixed [] hst (fun _ => .p rfl (op_load tok92 (.t 1 rfl)) <| .p rfl (op_load tok44 (.t 1 rfl)) <| .p rfl (op_callT (u := x_) (.t 1 rfl) (.cons (.of (.t 0 rfl)) <| .nil) ht6) <| .p rfl (op_not (.t 0 rfl)) <| .p rfl (op_assign (.t 0 rfl)) <| .nil _ _) (by kernel_rfl) (fun n1 a w hst => ?_)
 replace hst : St M w0 8 [(3,tb (!t6))] [] a w := (hst.pick [4])
 refine hK2 _ _ ?_
 try clear hK2 K2
 refine wp_ret ?_
 obtain rfl := sj h
 exact ret_st undef [] hpl hst rfl (.tmp (.t 0 rfl) .nil) rfl rfl rfl

/- slices.ContainsFunc[[]diorama/api.Field,diorama/api.Field] -/
noncomputable def fslices_ContainsFunc_Field (s_ : (List Sapi_Field)) (f_ : (Sapi_Field → Option Bool)) : Option (Bool) := (fslices_IndexFunc_Field s_ f_).bind fun t7 => (some (decide (t7 ≥ (0:Int))))
set_option maxRecDepth 100000 in
set_option maxHeartbeats 4000000 in
theorem slices_ContainsFunc_Field_ok {s_ : (List Sapi_Field)} {f_ : (Sapi_Field → Option Bool)} {r : Bool} (h : fslices_ContainsFunc_Field s_ f_ = some r) : FnOk Tryz.prog 138 [tsl rSapi_Field s_,rF92.ty f_] [] (fun _ => []) (fun _ => tb r) := by
 unfold fslices_ContainsFunc_Field at h
 refine FnOk.enter Tryz.func138 rfl Tryz.ntmps138 (leb rfl) (fun M0 M w0 a hpl hst => ?_)
 replace hst : St M w0 9 [(0,tsl rSapi_Field s_),(1,rF92.ty f_)] [] a w0 := hst
 refine wp_seq_k (fun K1 hK1 => ?_)
 refine wp_reg mixed [] hst (fun _ => .p rfl (op_assign .k) <| .nil _ _) (by kernel_rfl) (fun n0 a w hst => ?_)
 replace hst : St M w0 9 [(0,tsl rSapi_Field s_),(1,rF92.ty f_)] [] a w := (hst.pick [1,2])
 refine hK1 _ _ ?_
 try clear hK1 K1
 refine wp_seq_k (fun K2 hK2 => ?_)
 obtain ⟨t7,ht7,h⟩ := bind_some h
 refine wp_reg mixed [] hst (fun _ => .q 0 rfl <| .q 2 rfl <| .p rfl (op_callF call49 (slices_IndexFunc_Field_ok ht7) (.cons (.of (.t 1 rfl)) <| .cons (.of (.t 0 rfl)) <| .nil)) <| .p rfl (op_geq (.t 0 rfl) .k) <| .p rfl (op_assign (.t 0 rfl)) <| .nil _ _) (by kernel_rfl) (fun n1 a w hst => ?_)
 replace hst : St M w0 9 [(4,tb (decide (t7 ≥ (0:Int))))] [] a w := (hst.pick [4])
 refine hK2 _ _ ?_
 try clear hK2 K2
 refine wp_ret ?_
 obtain rfl := sj h
 exact ret_st undef [] hpl hst rfl (.tmp (.t 0 rfl) .nil) rfl rfl rfl

/- diorama/schema.all[diorama/api.Field] -/
noncomputable def fschema_all_Field (l_ : (List Sapi_Field)) (right_ : (Sapi_Field → Option Bool)) : Option (Bool) := (fslices_ContainsFunc_Field l_ (fun x0 => fschema_all_Fieldq1 x0 right_)).bind fun t7 => (some (!t7))
set_option maxRecDepth 100000 in
set_option maxHeartbeats 4000000 in
theorem schema_all_Field_ok {l_ : (List Sapi_Field)} {right_ : (Sapi_Field → Option Bool)} {r : Bool} (h : fschema_all_Field l_ right_ = some r) : FnOk Tryz.prog 107 [tsl rSapi_Field l_,rF92.ty right_] [] (fun _ => []) (fun _ => tb r) := by
 unfold fschema_all_Field at h
 refine FnOk.enter Tryz.func107 rfl Tryz.ntmps107 (leb rfl) (fun M0 M w0 a hpl hst => ?_)
 replace hst : St M w0 9 [(0,tsl rSapi_Field l_),(1,rF92.ty right_)] [] a w0 := hst
 refine wp_seq_k (fun K1 hK1 => ?_)
 refine wp_reg mixed [] hst (fun _ => .p rfl (op_boxR (R := rF92) (u := right_) (.t 1 rfl)) <| .p rfl (op_assign .k) <| .nil _ _) (by kernel_rfl) (fun n0 a w hst => ?_)
 replace hst : St M w0 9 [(3,tptr (rF92.cs right_)),(0,tsl rSapi_Field l_)] [] a w := (hst.pick [0,2])
 refine hK1 _ _ ?_
 try clear hK1 K1
 refine wp_seq_k (fun K2 hK2 => ?_)
 obtain ⟨t7,ht7,h⟩ := bind_some h
 refine wp_reg mixed [] hst (fun _ => .q 1 rfl <| .p rfl (op_clo (.cons (.t 1 rfl) <| .nil)) <| .p rfl (op_callF call138 (slices_ContainsFunc_Field_ok ht7) (.cons (.of (.t 1 rfl)) <| .cons (.of (Fct.weak (.t 0 rfl) (tfn_of call139 (fun _ _ hq => schema_all_Fieldq1_ok hq)))) <| .nil)) <| .p rfl (op_not (.t 0 rfl)) <| .p rfl (op_assign (.t 0 rfl)) <| .nil _ _) (by kernel_rfl) (fun n1 a w hst => ?_)
 replace hst : St M w0 9 [(4,tb (!t7))] [] a w := (hst.pick [4])
 refine hK2 _ _ ?_
 try clear hK2 K2
 refine wp_ret ?_
 obtain rfl := sj h
 exact ret_st undef [] hpl hst rfl (.tmp (.t 0 rfl) .nil) rfl rfl rfl

/- diorama/schema.only -/
noncomputable def fschema_only (f_ : Sapi_Field) : Option (Sapi_Field) := ((if ((f_).Kind == (0:Int)) = true then (some (Sapi_Field.mk (f_).Name ([] : Str) ([] : Str) (f_).Kind (f_).Lo (0:Int) ([] : (List Str)) ([] : (List Int)))) else ((if ((f_).Kind == (1:Int)) = true then (some ((f_).Kind == (1:Int))) else ((if ((f_).Kind == (4:Int)) = true then (some ((f_).Kind == (4:Int))) else (some ((f_).Kind == (5:Int))))).bind fun (p535 : Bool) => (some p535))).bind fun (p277 : Bool) => ((if p277 = true then (some (Sapi_Field.mk (f_).Name (f_).Of ([] : Str) (f_).Kind (f_).Lo (f_).Hi ([] : (List Str)) ([] : (List Int)))) else ((if ((f_).Kind == (2:Int)) = true then (some (Sapi_Field.mk (f_).Name ([] : Str) ([] : Str) (f_).Kind (f_).Lo (f_).Hi ([] : (List Str)) ([] : (List Int)))) else ((if ((f_).Kind == (3:Int)) = true then (some (Sapi_Field.mk (f_).Name ([] : Str) ([] : Str) (f_).Kind (0:Int) (0:Int) (f_).Words (f_).Weights)) else ((if ((f_).Kind == (6:Int)) = true then (some (Sapi_Field.mk (f_).Name (f_).Of ([] : Str) (f_).Kind (0:Int) (0:Int) ([] : (List Str)) ([] : (List Int)))) else ((if ((f_).Kind == (7:Int)) = true then (some (Sapi_Field.mk (f_).Name (f_).Of (f_).Up (f_).Kind (f_).Lo (f_).Hi ([] : (List Str)) ([] : (List Int)))) else ((if ((f_).Kind == (8:Int)) = true then (some (Sapi_Field.mk (f_).Name (f_).Of (f_).Up (f_).Kind (0:Int) (0:Int) ([] : (List Str)) ([] : (List Int)))) else (some (Sapi_Field.mk (f_).Name ([] : Str) ([] : Str) (f_).Kind (0:Int) (0:Int) ([] : (List Str)) ([] : (List Int)))))).bind fun (p526 : Sapi_Field) => (some p526))).bind fun (p519 : Sapi_Field) => (some p519))).bind fun (p504 : Sapi_Field) => (some p504))).bind fun (p473 : Sapi_Field) => (some p473))).bind fun (p410 : Sapi_Field) => (some p410))).bind fun (p283 : Sapi_Field) => (some p283))).bind fun (p8 : Sapi_Field) => (some p8)
set_option maxRecDepth 100000 in
set_option maxHeartbeats 4000000 in
theorem schema_only_ok {f_ : Sapi_Field} {r : Sapi_Field} (h : fschema_only f_ = some r) : FnOk Tryz.prog 140 [rSapi_Field.ty f_] [] (fun _ => []) (fun _ => rSapi_Field.ty r) := by
 unfold fschema_only at h
 refine FnOk.enter Tryz.func140 rfl Tryz.ntmps140 (leb rfl) (fun M0 M w0 a hpl hst => ?_)
 replace hst : St M w0 73 [(0,rSapi_Field.ty f_)] [] a w0 := hst
 refine wp_seq_k (fun K1 hK1 => ?_)
 refine wp_reg mixed [v1 1 (fun v0 => box (rSapi_Field.cs (Sapi_Field.mk ([] : Str) ([] : Str) ([] : Str) (0:Int) (0:Int) (0:Int) ([] : (List Str)) ([] : (List Int)))) v0)] hst (fun _ => .p rfl (op_boxR (R := rSapi_Field) (u := f_) (.t 0 rfl)) <| .m [] [0] rfl rfl rfl (op_alloc (R := rSapi_Field) (a := (Sapi_Field.mk ([] : Str) ([] : Str) ([] : Str) (0:Int) (0:Int) (0:Int) ([] : (List Str)) ([] : (List Int)))) tok44 zok44) <| .nil _ _) (by kernel_rfl) (fun n0 a w hst => ?_)
 replace hst : St M w0 73 [(1,tptr (rSapi_Field.cs f_)),(2,tv (n0 1))] [box (rSapi_Field.cs (Sapi_Field.mk ([] : Str) ([] : Str) ([] : Str) (0:Int) (0:Int) (0:Int) ([] : (List Str)) ([] : (List Int)))) (n0 1)] a w := (hst.pick [0,1])
 refine hK1 _ _ ?_
 try clear hK1 K1
 refine wp_seq_k (fun K3 hK3 => ?_)
 refine wp_reg mixed [v1 5 (fun v0 => box (rSapi_Field.cs (Sapi_Field.mk ([] : Str) ([] : Str) ([] : Str) (0:Int) (0:Int) (0:Int) ([] : (List Str)) ([] : (List Int)))) v0),v1 5 (fun v0 => box (rSapi_Field.cs (Sapi_Field.mk (f_).Name ([] : Str) ([] : Str) (f_).Kind (0:Int) (0:Int) ([] : (List Str)) ([] : (List Int)))) v0)] hst (fun _ => .p rfl (op_field fld44_0 (.t 0 rfl)) <| .p rfl (op_loadT (R := rS) (u := (f_).Name) tok9 (.t 0 rfl) rfl) <| .p rfl (op_field fld44_3 (.t 2 rfl)) <| .p rfl (op_loadT (R := rI) (u := (f_).Kind) tok3 (.t 0 rfl) rfl) <| .p (T := rSapi_Field.ty (Sapi_Field.mk (f_).Name ([] : Str) ([] : Str) (f_).Kind (0:Int) (0:Int) ([] : (List Str)) ([] : (List Int)))) rfl (op_build Tryz.underlying44 pl44 zv44 zc44 (.cons (R := rS) (u := (f_).Name) rfl (.t 2 rfl) (leb rfl) <| .cons (R := rI) (u := (f_).Kind) rfl (.t 0 rfl) (leb rfl) <| .nil _)) <| .m [] [1] rfl rfl rfl (op_alloc (R := rSapi_Field) (a := (Sapi_Field.mk ([] : Str) ([] : Str) ([] : Str) (0:Int) (0:Int) (0:Int) ([] : (List Str)) ([] : (List Int)))) tok44 zok44) <| .e [] [1] [2] rfl rfl rfl rfl (op_storeB (R := rSapi_Field) (a := (Sapi_Field.mk (f_).Name ([] : Str) ([] : Str) (f_).Kind (0:Int) (0:Int) ([] : (List Str)) ([] : (List Int)))) tok44 (.t 0 rfl) (.t 1 rfl) (leb rfl)) <| .nil _ _) (by kernel_rfl) (fun n1 a w hst => ?_)
 replace hst : St M w0 73 [(3,tv (n1 5)),(1,tptr (rSapi_Field.cs f_)),(2,tv (n0 1))] [box (rSapi_Field.cs (Sapi_Field.mk ([] : Str) ([] : Str) ([] : Str) (0:Int) (0:Int) (0:Int) ([] : (List Str)) ([] : (List Int)))) (n0 1),box (rSapi_Field.cs (Sapi_Field.mk (f_).Name ([] : Str) ([] : Str) (f_).Kind (0:Int) (0:Int) ([] : (List Str)) ([] : (List Int)))) (n1 5)] a w := (hst.pick [5,6,7])
 refine hK3 _ _ ?_
 try clear hK3 K3
 refine wp_seq_k (fun K5 hK5 => ?_)
 refine wp_seq_k (fun K6 hK6 => ?_)
 refine wp_reg mixed [] hst (fun _ => .p rfl (op_field fld44_3 (.t 1 rfl)) <| .p rfl (op_loadT (R := rI) (u := (f_).Kind) tok3 (.t 0 rfl) rfl) <| .nil _ _) (by kernel_rfl) (fun n2 a w hst => ?_)
 replace hst : St M w0 73 [(10,ti (f_).Kind),(3,tv (n1 5)),(1,tptr (rSapi_Field.cs f_)),(2,tv (n0 1))] [box (rSapi_Field.cs (Sapi_Field.mk ([] : Str) ([] : Str) ([] : Str) (0:Int) (0:Int) (0:Int) ([] : (List Str)) ([] : (List Int)))) (n0 1),box (rSapi_Field.cs (Sapi_Field.mk (f_).Name ([] : Str) ([] : Str) (f_).Kind (0:Int) (0:Int) ([] : (List Str)) ([] : (List Int)))) (n1 5)] a w := (hst.pick [1,2,3,4])
 refine hK6 _ _ ?_
 try clear hK6 K6
 refine wp_block ?_
 refine wp_seq_k (fun K7 hK7 => ?_)
 refine wp_reg mixed [] hst (fun _ => .p rfl (op_eql (.t 0 rfl) .k) <| .p rfl (op_assign (.t 0 rfl)) <| .nil _ _) (by kernel_rfl) (fun n3 a w hst => ?_)
 replace hst : St M w0 73 [(11,tb ((f_).Kind == (0:Int))),(10,ti (f_).Kind),(3,tv (n1 5)),(1,tptr (rSapi_Field.cs f_)),(2,tv (n0 1))] [box (rSapi_Field.cs (Sapi_Field.mk ([] : Str) ([] : Str) ([] : Str) (0:Int) (0:Int) (0:Int) ([] : (List Str)) ([] : (List Int)))) (n0 1),box (rSapi_Field.cs (Sapi_Field.mk (f_).Name ([] : Str) ([] : Str) (f_).Kind (0:Int) (0:Int) ([] : (List Str)) ([] : (List Int)))) (n1 5)] a w := (hst.pick [1,2,3,4,5])
 refine hK7 _ _ ?_
 try clear hK7 K7
 obtain ⟨p8,hp8,h⟩ := bind_some h
 have hJp8 : ∀ a w,St M w0 73 [(3,tv (n1 5)),(2,tv (n0 1))] [box (rSapi_Field.cs (Sapi_Field.mk ([] : Str) ([] : Str) ([] : Str) (0:Int) (0:Int) (0:Int) ([] : (List Str)) ([] : (List Int)))) (n0 1),box (rSapi_Field.cs p8) (n1 5)] a w → K5 a w := by
  intro a w hst
  refine hK5 _ _ ?_
  try clear hK5 K5
  refine wp_seq_k (fun K274 hK274 => ?_)
  refine wp_reg mixed [v0 (box (rSapi_Field.cs p8) (n0 1))] hst (fun _ => .u [1] rfl rfl (op_loadB (R := rSapi_Field) (u := p8) tok44 (.t 0 rfl) rfl) <| .e [] [0] [2] rfl rfl rfl rfl (op_storeB (R := rSapi_Field) (a := p8) tok44 (.t 2 rfl) (.t 0 rfl) (leb rfl)) <| .nil _ _) (by kernel_rfl) (fun n19 a w hst => ?_)
  replace hst : St M w0 73 [(2,tv (n0 1))] [box (rSapi_Field.cs p8) (n0 1)] a w := ((hst.pick [2]).selA [1] rfl)
  refine hK274 _ _ ?_
  try clear hK274 K274
  refine wp_ret ?_
  obtain rfl := sj h
  exact ret_st undef [] hpl hst rfl (.cell (R := rSapi_Field) (u := p8) tok44 (.t 0 rfl) 0 rfl rfl .nil) rfl rfl rfl
 replace h := hp8
 clear hp8
 refine wp_test 0 hst rfl (fun b539 => ?_) (fun b539 => ?_)
 ·replace h := ite_t b539 h
  refine wp_reg mixed [v0 (box (rSapi_Field.cs (Sapi_Field.mk (f_).Name ([] : Str) ([] : Str) (f_).Kind (f_).Lo (0:Int) ([] : (List Str)) ([] : (List Int)))) (n1 5))] hst (fun _ => .p rfl (op_field fld44_4 (.t 3 rfl)) <| .p rfl (op_loadT (R := rI) (u := (f_).Lo) tok3 (.t 0 rfl) rfl) <| .u [1] rfl rfl (op_fieldB fld44_4 (.t 4 rfl)) <| .e [] [1] [2] rfl rfl rfl rfl (op_storeBf (R := rI) (a := (f_).Lo) (Ts := (rSapi_Field.cs (Sapi_Field.mk (f_).Name ([] : Str) ([] : Str) (f_).Kind (0:Int) (0:Int) ([] : (List Str)) ([] : (List Int))))) (off := 4) tok3 (.t 0 rfl) (.t 1 rfl) (leb rfl)) <| .nil _ _) (by kernel_rfl) (fun n4 a w hst => ?_)
  replace hst : St M w0 73 [(3,tv (n1 5)),(2,tv (n0 1))] [box (rSapi_Field.cs (Sapi_Field.mk ([] : Str) ([] : Str) ([] : Str) (0:Int) (0:Int) (0:Int) ([] : (List Str)) ([] : (List Int)))) (n0 1),box (rSapi_Field.cs (Sapi_Field.mk (f_).Name ([] : Str) ([] : Str) (f_).Kind (f_).Lo (0:Int) ([] : (List Str)) ([] : (List Int)))) (n1 5)] a w := (hst.pick [5,7])
  obtain rfl := sj h
  exact hJp8 _ _ (hst.pick [0,1])
 ·replace h := ite_f b539 h
  refine wp_seq_k (fun K275 hK275 => ?_)
  refine wp_seq_k (fun K276 hK276 => ?_)
  refine wp_reg mixed [] hst (fun _ => .p rfl (op_eql (.t 1 rfl) .k) <| .p rfl (op_assign (.t 0 rfl)) <| .nil _ _) (by kernel_rfl) (fun n5 a w hst => ?_)
  replace hst : St M w0 73 [(16,tb ((f_).Kind == (1:Int))),(10,ti (f_).Kind),(3,tv (n1 5)),(1,tptr (rSapi_Field.cs f_)),(2,tv (n0 1))] [box (rSapi_Field.cs (Sapi_Field.mk ([] : Str) ([] : Str) ([] : Str) (0:Int) (0:Int) (0:Int) ([] : (List Str)) ([] : (List Int)))) (n0 1),box (rSapi_Field.cs (Sapi_Field.mk (f_).Name ([] : Str) ([] : Str) (f_).Kind (0:Int) (0:Int) ([] : (List Str)) ([] : (List Int)))) (n1 5)] a w := (hst.pick [1,3,4,5,6])
  refine hK276 _ _ ?_
  try clear hK276 K276
  obtain ⟨p277,hp277,h⟩ := bind_some h
  have hJp277 : ∀ a w,St M w0 73 [(16,tb p277),(10,ti (f_).Kind),(3,tv (n1 5)),(1,tptr (rSapi_Field.cs f_)),(2,tv (n0 1))] [box (rSapi_Field.cs (Sapi_Field.mk ([] : Str) ([] : Str) ([] : Str) (0:Int) (0:Int) (0:Int) ([] : (List Str)) ([] : (List Int)))) (n0 1),box (rSapi_Field.cs (Sapi_Field.mk (f_).Name ([] : Str) ([] : Str) (f_).Kind (0:Int) (0:Int) ([] : (List Str)) ([] : (List Int)))) (n1 5)] a w → K275 a w := by
   intro a w hst
   refine hK275 _ _ ?_
   try clear hK275 K275
   obtain ⟨p283,hp283,h⟩ := bind_some h
   have hJp283 : ∀ a w,St M w0 73 [(3,tv (n1 5)),(2,tv (n0 1))] [box (rSapi_Field.cs (Sapi_Field.mk ([] : Str) ([] : Str) ([] : Str) (0:Int) (0:Int) (0:Int) ([] : (List Str)) ([] : (List Int)))) (n0 1),box (rSapi_Field.cs p283) (n1 5)] a w → K5 a w := by
    intro a w hst
    obtain rfl := sj h
    exact hJp8 _ _ (hst.pick [0,1])
   replace h := hp283
   clear hp283
   refine wp_test 0 hst rfl (fun b533 => ?_) (fun b533 => ?_)
   ·replace h := ite_t b533 h
    refine wp_reg mixed [v0 (box (rSapi_Field.cs (Sapi_Field.mk (f_).Name (f_).Of ([] : Str) (f_).Kind (0:Int) (0:Int) ([] : (List Str)) ([] : (List Int)))) (n1 5)),v0 (box (rSapi_Field.cs (Sapi_Field.mk (f_).Name (f_).Of ([] : Str) (f_).Kind (f_).Lo (0:Int) ([] : (List Str)) ([] : (List Int)))) (n1 5)),v0 (box (rSapi_Field.cs (Sapi_Field.mk (f_).Name (f_).Of ([] : Str) (f_).Kind (f_).Lo (f_).Hi ([] : (List Str)) ([] : (List Int)))) (n1 5))] hst (fun _ => .p rfl (op_field fld44_1 (.t 3 rfl)) <| .p rfl (op_loadT (R := rS) (u := (f_).Of) tok9 (.t 0 rfl) rfl) <| .p rfl (op_field fld44_4 (.t 5 rfl)) <| .p rfl (op_loadT (R := rI) (u := (f_).Lo) tok3 (.t 0 rfl) rfl) <| .p rfl (op_field fld44_5 (.t 7 rfl)) <| .p rfl (op_loadT (R := rI) (u := (f_).Hi) tok3 (.t 0 rfl) rfl) <| .u [1] rfl rfl (op_fieldB fld44_1 (.t 8 rfl)) <| .e [] [1] [2] rfl rfl rfl rfl (op_storeBf (R := rS) (a := (f_).Of) (Ts := (rSapi_Field.cs (Sapi_Field.mk (f_).Name ([] : Str) ([] : Str) (f_).Kind (0:Int) (0:Int) ([] : (List Str)) ([] : (List Int))))) (off := 1) tok9 (.t 0 rfl) (.t 5 rfl) (leb rfl)) <| .u [2] rfl rfl (op_fieldB fld44_4 (.t 9 rfl)) <| .e [] [2] [3] rfl rfl rfl rfl (op_storeBf (R := rI) (a := (f_).Lo) (Ts := (rSapi_Field.cs (Sapi_Field.mk (f_).Name (f_).Of ([] : Str) (f_).Kind (0:Int) (0:Int) ([] : (List Str)) ([] : (List Int))))) (off := 4) tok3 (.t 0 rfl) (.t 4 rfl) (leb rfl)) <| .u [3] rfl rfl (op_fieldB fld44_5 (.t 10 rfl)) <| .e [] [3] [4] rfl rfl rfl rfl (op_storeBf (R := rI) (a := (f_).Hi) (Ts := (rSapi_Field.cs (Sapi_Field.mk (f_).Name (f_).Of ([] : Str) (f_).Kind (f_).Lo (0:Int) ([] : (List Str)) ([] : (List Int))))) (off := 5) tok3 (.t 0 rfl) (.t 3 rfl) (leb rfl)) <| .nil _ _) (by kernel_rfl) (fun n8 a w hst => ?_)
    replace hst : St M w0 73 [(3,tv (n1 5)),(2,tv (n0 1))] [box (rSapi_Field.cs (Sapi_Field.mk ([] : Str) ([] : Str) ([] : Str) (0:Int) (0:Int) (0:Int) ([] : (List Str)) ([] : (List Int)))) (n0 1),box (rSapi_Field.cs (Sapi_Field.mk (f_).Name (f_).Of ([] : Str) (f_).Kind (f_).Lo (f_).Hi ([] : (List Str)) ([] : (List Int)))) (n1 5)] a w := (hst.pick [11,13])
    obtain rfl := sj h
    exact hJp283 _ _ (hst.pick [0,1])
   ·replace h := ite_f b533 h
    refine wp_seq_k (fun K409 hK409 => ?_)
    refine wp_reg mixed [] hst (fun _ => .p rfl (op_eql (.t 1 rfl) .k) <| .p rfl (op_assign (.t 0 rfl)) <| .nil _ _) (by kernel_rfl) (fun n9 a w hst => ?_)
    replace hst : St M w0 73 [(29,tb ((f_).Kind == (2:Int))),(10,ti (f_).Kind),(3,tv (n1 5)),(1,tptr (rSapi_Field.cs f_)),(2,tv (n0 1))] [box (rSapi_Field.cs (Sapi_Field.mk ([] : Str) ([] : Str) ([] : Str) (0:Int) (0:Int) (0:Int) ([] : (List Str)) ([] : (List Int)))) (n0 1),box (rSapi_Field.cs (Sapi_Field.mk (f_).Name ([] : Str) ([] : Str) (f_).Kind (0:Int) (0:Int) ([] : (List Str)) ([] : (List Int)))) (n1 5)] a w := (hst.pick [1,3,4,5,6])
    refine hK409 _ _ ?_
    try clear hK409 K409
    obtain ⟨p410,hp410,h⟩ := bind_some h
    have hJp410 : ∀ a w,St M w0 73 [(3,tv (n1 5)),(2,tv (n0 1))] [box (rSapi_Field.cs (Sapi_Field.mk ([] : Str) ([] : Str) ([] : Str) (0:Int) (0:Int) (0:Int) ([] : (List Str)) ([] : (List Int)))) (n0 1),box (rSapi_Field.cs p410) (n1 5)] a w → K5 a w := by
     intro a w hst
     obtain rfl := sj h
     exact hJp283 _ _ (hst.pick [0,1])
    replace h := hp410
    clear hp410
    refine wp_test 0 hst rfl (fun b532 => ?_) (fun b532 => ?_)
    ·replace h := ite_t b532 h
     refine wp_reg mixed [v0 (box (rSapi_Field.cs (Sapi_Field.mk (f_).Name ([] : Str) ([] : Str) (f_).Kind (f_).Lo (0:Int) ([] : (List Str)) ([] : (List Int)))) (n1 5)),v0 (box (rSapi_Field.cs (Sapi_Field.mk (f_).Name ([] : Str) ([] : Str) (f_).Kind (f_).Lo (f_).Hi ([] : (List Str)) ([] : (List Int)))) (n1 5))] hst (fun _ => .p rfl (op_field fld44_4 (.t 3 rfl)) <| .p rfl (op_loadT (R := rI) (u := (f_).Lo) tok3 (.t 0 rfl) rfl) <| .p rfl (op_field fld44_5 (.t 5 rfl)) <| .p rfl (op_loadT (R := rI) (u := (f_).Hi) tok3 (.t 0 rfl) rfl) <| .u [1] rfl rfl (op_fieldB fld44_4 (.t 6 rfl)) <| .e [] [1] [2] rfl rfl rfl rfl (op_storeBf (R := rI) (a := (f_).Lo) (Ts := (rSapi_Field.cs (Sapi_Field.mk (f_).Name ([] : Str) ([] : Str) (f_).Kind (0:Int) (0:Int) ([] : (List Str)) ([] : (List Int))))) (off := 4) tok3 (.t 0 rfl) (.t 3 rfl) (leb rfl)) <| .u [2] rfl rfl (op_fieldB fld44_5 (.t 7 rfl)) <| .e [] [2] [3] rfl rfl rfl rfl (op_storeBf (R := rI) (a := (f_).Hi) (Ts := (rSapi_Field.cs (Sapi_Field.mk (f_).Name ([] : Str) ([] : Str) (f_).Kind (f_).Lo (0:Int) ([] : (List Str)) ([] : (List Int))))) (off := 5) tok3 (.t 0 rfl) (.t 2 rfl) (leb rfl)) <| .nil _ _) (by kernel_rfl) (fun n10 a w hst => ?_)
     replace hst : St M w0 73 [(3,tv (n1 5)),(2,tv (n0 1))] [box (rSapi_Field.cs (Sapi_Field.mk ([] : Str) ([] : Str) ([] : Str) (0:Int) (0:Int) (0:Int) ([] : (List Str)) ([] : (List Int)))) (n0 1),box (rSapi_Field.cs (Sapi_Field.mk (f_).Name ([] : Str) ([] : Str) (f_).Kind (f_).Lo (f_).Hi ([] : (List Str)) ([] : (List Int)))) (n1 5)] a w := (hst.pick [8,10])
     obtain rfl := sj h
     exact hJp410 _ _ (hst.pick [0,1])
    ·replace h := ite_f b532 h
     refine wp_seq_k (fun K472 hK472 => ?_)
     refine wp_reg mixed [] hst (fun _ => .p rfl (op_eql (.t 1 rfl) .k) <| .p rfl (op_assign (.t 0 rfl)) <| .nil _ _) (by kernel_rfl) (fun n11 a w hst => ?_)
     replace hst : St M w0 73 [(37,tb ((f_).Kind == (3:Int))),(10,ti (f_).Kind),(3,tv (n1 5)),(1,tptr (rSapi_Field.cs f_)),(2,tv (n0 1))] [box (rSapi_Field.cs (Sapi_Field.mk ([] : Str) ([] : Str) ([] : Str) (0:Int) (0:Int) (0:Int) ([] : (List Str)) ([] : (List Int)))) (n0 1),box (rSapi_Field.cs (Sapi_Field.mk (f_).Name ([] : Str) ([] : Str) (f_).Kind (0:Int) (0:Int) ([] : (List Str)) ([] : (List Int)))) (n1 5)] a w := (hst.pick [1,3,4,5,6])
     refine hK472 _ _ ?_
     try clear hK472 K472
     obtain ⟨p473,hp473,h⟩ := bind_some h
     have hJp473 : ∀ a w,St M w0 73 [(3,tv (n1 5)),(2,tv (n0 1))] [box (rSapi_Field.cs (Sapi_Field.mk ([] : Str) ([] : Str) ([] : Str) (0:Int) (0:Int) (0:Int) ([] : (List Str)) ([] : (List Int)))) (n0 1),box (rSapi_Field.cs p473) (n1 5)] a w → K5 a w := by
      intro a w hst
      obtain rfl := sj h
      exact hJp410 _ _ (hst.pick [0,1])
     replace h := hp473
     clear hp473
     refine wp_test 0 hst rfl (fun b531 => ?_) (fun b531 => ?_)
     ·replace h := ite_t b531 h
      refine wp_reg mixed [v0 (box (rSapi_Field.cs (Sapi_Field.mk (f_).Name ([] : Str) ([] : Str) (f_).Kind (0:Int) (0:Int) (f_).Words ([] : (List Int)))) (n1 5)),v0 (box (rSapi_Field.cs (Sapi_Field.mk (f_).Name ([] : Str) ([] : Str) (f_).Kind (0:Int) (0:Int) (f_).Words (f_).Weights)) (n1 5))] hst (fun _ => .p rfl (op_field fld44_6 (.t 3 rfl)) <| .p rfl (op_loadT (R := (rSl rS)) (u := (f_).Words) tok38 (.t 0 rfl) rfl) <| .p rfl (op_field fld44_7 (.t 5 rfl)) <| .p rfl (op_loadT (R := (rSl rI)) (u := (f_).Weights) tok22 (.t 0 rfl) rfl) <| .u [1] rfl rfl (op_fieldB fld44_6 (.t 6 rfl)) <| .e [] [1] [2] rfl rfl rfl rfl (op_storeBf (R := (rSl rS)) (a := (f_).Words) (Ts := (rSapi_Field.cs (Sapi_Field.mk (f_).Name ([] : Str) ([] : Str) (f_).Kind (0:Int) (0:Int) ([] : (List Str)) ([] : (List Int))))) (off := 6) tok38 (.t 0 rfl) (.t 3 rfl) (leb rfl)) <| .u [2] rfl rfl (op_fieldB fld44_7 (.t 7 rfl)) <| .e [] [2] [3] rfl rfl rfl rfl (op_storeBf (R := (rSl rI)) (a := (f_).Weights) (Ts := (rSapi_Field.cs (Sapi_Field.mk (f_).Name ([] : Str) ([] : Str) (f_).Kind (0:Int) (0:Int) (f_).Words ([] : (List Int))))) (off := 7) tok22 (.t 0 rfl) (.t 2 rfl) (leb rfl)) <| .nil _ _) (by kernel_rfl) (fun n12 a w hst => ?_)
      replace hst : St M w0 73 [(3,tv (n1 5)),(2,tv (n0 1))] [box (rSapi_Field.cs (Sapi_Field.mk ([] : Str) ([] : Str) ([] : Str) (0:Int) (0:Int) (0:Int) ([] : (List Str)) ([] : (List Int)))) (n0 1),box (rSapi_Field.cs (Sapi_Field.mk (f_).Name ([] : Str) ([] : Str) (f_).Kind (0:Int) (0:Int) (f_).Words (f_).Weights)) (n1 5)] a w := (hst.pick [8,10])
      obtain rfl := sj h
      exact hJp473 _ _ (hst.pick [0,1])
     ·replace h := ite_f b531 h
      refine wp_seq_k (fun K503 hK503 => ?_)
      refine wp_reg mixed [] hst (fun _ => .p rfl (op_eql (.t 1 rfl) .k) <| .p rfl (op_assign (.t 0 rfl)) <| .nil _ _) (by kernel_rfl) (fun n13 a w hst => ?_)
      replace hst : St M w0 73 [(45,tb ((f_).Kind == (6:Int))),(10,ti (f_).Kind),(3,tv (n1 5)),(1,tptr (rSapi_Field.cs f_)),(2,tv (n0 1))] [box (rSapi_Field.cs (Sapi_Field.mk ([] : Str) ([] : Str) ([] : Str) (0:Int) (0:Int) (0:Int) ([] : (List Str)) ([] : (List Int)))) (n0 1),box (rSapi_Field.cs (Sapi_Field.mk (f_).Name ([] : Str) ([] : Str) (f_).Kind (0:Int) (0:Int) ([] : (List Str)) ([] : (List Int)))) (n1 5)] a w := (hst.pick [1,3,4,5,6])
      refine hK503 _ _ ?_
      try clear hK503 K503
      obtain ⟨p504,hp504,h⟩ := bind_some h
      have hJp504 : ∀ a w,St M w0 73 [(3,tv (n1 5)),(2,tv (n0 1))] [box (rSapi_Field.cs (Sapi_Field.mk ([] : Str) ([] : Str) ([] : Str) (0:Int) (0:Int) (0:Int) ([] : (List Str)) ([] : (List Int)))) (n0 1),box (rSapi_Field.cs p504) (n1 5)] a w → K5 a w := by
       intro a w hst
       obtain rfl := sj h
       exact hJp473 _ _ (hst.pick [0,1])
      replace h := hp504
      clear hp504
      refine wp_test 0 hst rfl (fun b530 => ?_) (fun b530 => ?_)
      ·replace h := ite_t b530 h
       refine wp_reg mixed [v0 (box (rSapi_Field.cs (Sapi_Field.mk (f_).Name (f_).Of ([] : Str) (f_).Kind (0:Int) (0:Int) ([] : (List Str)) ([] : (List Int)))) (n1 5))] hst (fun _ => .p rfl (op_field fld44_1 (.t 3 rfl)) <| .p rfl (op_loadT (R := rS) (u := (f_).Of) tok9 (.t 0 rfl) rfl) <| .u [1] rfl rfl (op_fieldB fld44_1 (.t 4 rfl)) <| .e [] [1] [2] rfl rfl rfl rfl (op_storeBf (R := rS) (a := (f_).Of) (Ts := (rSapi_Field.cs (Sapi_Field.mk (f_).Name ([] : Str) ([] : Str) (f_).Kind (0:Int) (0:Int) ([] : (List Str)) ([] : (List Int))))) (off := 1) tok9 (.t 0 rfl) (.t 1 rfl) (leb rfl)) <| .nil _ _) (by kernel_rfl) (fun n14 a w hst => ?_)
       replace hst : St M w0 73 [(3,tv (n1 5)),(2,tv (n0 1))] [box (rSapi_Field.cs (Sapi_Field.mk ([] : Str) ([] : Str) ([] : Str) (0:Int) (0:Int) (0:Int) ([] : (List Str)) ([] : (List Int)))) (n0 1),box (rSapi_Field.cs (Sapi_Field.mk (f_).Name (f_).Of ([] : Str) (f_).Kind (0:Int) (0:Int) ([] : (List Str)) ([] : (List Int)))) (n1 5)] a w := (hst.pick [5,7])
       obtain rfl := sj h
       exact hJp504 _ _ (hst.pick [0,1])
      ·replace h := ite_f b530 h
       refine wp_seq_k (fun K518 hK518 => ?_)
       refine wp_reg mixed [] hst (fun _ => .p rfl (op_eql (.t 1 rfl) .k) <| .p rfl (op_assign (.t 0 rfl)) <| .nil _ _) (by kernel_rfl) (fun n15 a w hst => ?_)
       replace hst : St M w0 73 [(50,tb ((f_).Kind == (7:Int))),(10,ti (f_).Kind),(3,tv (n1 5)),(1,tptr (rSapi_Field.cs f_)),(2,tv (n0 1))] [box (rSapi_Field.cs (Sapi_Field.mk ([] : Str) ([] : Str) ([] : Str) (0:Int) (0:Int) (0:Int) ([] : (List Str)) ([] : (List Int)))) (n0 1),box (rSapi_Field.cs (Sapi_Field.mk (f_).Name ([] : Str) ([] : Str) (f_).Kind (0:Int) (0:Int) ([] : (List Str)) ([] : (List Int)))) (n1 5)] a w := (hst.pick [1,3,4,5,6])
       refine hK518 _ _ ?_
       try clear hK518 K518
       obtain ⟨p519,hp519,h⟩ := bind_some h
       have hJp519 : ∀ a w,St M w0 73 [(3,tv (n1 5)),(2,tv (n0 1))] [box (rSapi_Field.cs (Sapi_Field.mk ([] : Str) ([] : Str) ([] : Str) (0:Int) (0:Int) (0:Int) ([] : (List Str)) ([] : (List Int)))) (n0 1),box (rSapi_Field.cs p519) (n1 5)] a w → K5 a w := by
        intro a w hst
        obtain rfl := sj h
        exact hJp504 _ _ (hst.pick [0,1])
       replace h := hp519
       clear hp519
       refine wp_test 0 hst rfl (fun b529 => ?_) (fun b529 => ?_)
       ·replace h := ite_t b529 h
        refine wp_reg mixed [v0 (box (rSapi_Field.cs (Sapi_Field.mk (f_).Name (f_).Of ([] : Str) (f_).Kind (0:Int) (0:Int) ([] : (List Str)) ([] : (List Int)))) (n1 5)),v0 (box (rSapi_Field.cs (Sapi_Field.mk (f_).Name (f_).Of (f_).Up (f_).Kind (0:Int) (0:Int) ([] : (List Str)) ([] : (List Int)))) (n1 5)),v0 (box (rSapi_Field.cs (Sapi_Field.mk (f_).Name (f_).Of (f_).Up (f_).Kind (f_).Lo (0:Int) ([] : (List Str)) ([] : (List Int)))) (n1 5)),v0 (box (rSapi_Field.cs (Sapi_Field.mk (f_).Name (f_).Of (f_).Up (f_).Kind (f_).Lo (f_).Hi ([] : (List Str)) ([] : (List Int)))) (n1 5))] hst (fun _ => .p rfl (op_field fld44_1 (.t 3 rfl)) <| .p rfl (op_loadT (R := rS) (u := (f_).Of) tok9 (.t 0 rfl) rfl) <| .p rfl (op_field fld44_2 (.t 5 rfl)) <| .p rfl (op_loadT (R := rS) (u := (f_).Up) tok9 (.t 0 rfl) rfl) <| .p rfl (op_field fld44_4 (.t 7 rfl)) <| .p rfl (op_loadT (R := rI) (u := (f_).Lo) tok3 (.t 0 rfl) rfl) <| .p rfl (op_field fld44_5 (.t 9 rfl)) <| .p rfl (op_loadT (R := rI) (u := (f_).Hi) tok3 (.t 0 rfl) rfl) <| .u [1] rfl rfl (op_fieldB fld44_1 (.t 10 rfl)) <| .e [] [1] [2] rfl rfl rfl rfl (op_storeBf (R := rS) (a := (f_).Of) (Ts := (rSapi_Field.cs (Sapi_Field.mk (f_).Name ([] : Str) ([] : Str) (f_).Kind (0:Int) (0:Int) ([] : (List Str)) ([] : (List Int))))) (off := 1) tok9 (.t 0 rfl) (.t 7 rfl) (leb rfl)) <| .u [2] rfl rfl (op_fieldB fld44_2 (.t 11 rfl)) <| .e [] [2] [3] rfl rfl rfl rfl (op_storeBf (R := rS) (a := (f_).Up) (Ts := (rSapi_Field.cs (Sapi_Field.mk (f_).Name (f_).Of ([] : Str) (f_).Kind (0:Int) (0:Int) ([] : (List Str)) ([] : (List Int))))) (off := 2) tok9 (.t 0 rfl) (.t 6 rfl) (leb rfl)) <| .u [3] rfl rfl (op_fieldB fld44_4 (.t 12 rfl)) <| .e [] [3] [4] rfl rfl rfl rfl (op_storeBf (R := rI) (a := (f_).Lo) (Ts := (rSapi_Field.cs (Sapi_Field.mk (f_).Name (f_).Of (f_).Up (f_).Kind (0:Int) (0:Int) ([] : (List Str)) ([] : (List Int))))) (off := 4) tok3 (.t 0 rfl) (.t 5 rfl) (leb rfl)) <| .u [4] rfl rfl (op_fieldB fld44_5 (.t 13 rfl)) <| .e [] [4] [5] rfl rfl rfl rfl (op_storeBf (R := rI) (a := (f_).Hi) (Ts := (rSapi_Field.cs (Sapi_Field.mk (f_).Name (f_).Of (f_).Up (f_).Kind (f_).Lo (0:Int) ([] : (List Str)) ([] : (List Int))))) (off := 5) tok3 (.t 0 rfl) (.t 4 rfl) (leb rfl)) <| .nil _ _) (by kernel_rfl) (fun n16 a w hst => ?_)
        replace hst : St M w0 73 [(3,tv (n1 5)),(2,tv (n0 1))] [box (rSapi_Field.cs (Sapi_Field.mk ([] : Str) ([] : Str) ([] : Str) (0:Int) (0:Int) (0:Int) ([] : (List Str)) ([] : (List Int)))) (n0 1),box (rSapi_Field.cs (Sapi_Field.mk (f_).Name (f_).Of (f_).Up (f_).Kind (f_).Lo (f_).Hi ([] : (List Str)) ([] : (List Int)))) (n1 5)] a w := (hst.pick [14,16])
        obtain rfl := sj h
        exact hJp519 _ _ (hst.pick [0,1])
       ·replace h := ite_f b529 h
        refine wp_seq_k (fun K525 hK525 => ?_)
        refine wp_reg mixed [] hst (fun _ => .p rfl (op_eql (.t 1 rfl) .k) <| .p rfl (op_assign (.t 0 rfl)) <| .nil _ _) (by kernel_rfl) (fun n17 a w hst => ?_)
        replace hst : St M w0 73 [(64,tb ((f_).Kind == (8:Int))),(3,tv (n1 5)),(1,tptr (rSapi_Field.cs f_)),(2,tv (n0 1))] [box (rSapi_Field.cs (Sapi_Field.mk ([] : Str) ([] : Str) ([] : Str) (0:Int) (0:Int) (0:Int) ([] : (List Str)) ([] : (List Int)))) (n0 1),box (rSapi_Field.cs (Sapi_Field.mk (f_).Name ([] : Str) ([] : Str) (f_).Kind (0:Int) (0:Int) ([] : (List Str)) ([] : (List Int)))) (n1 5)] a w := (hst.pick [1,4,5,6])
        refine hK525 _ _ ?_
        try clear hK525 K525
        obtain ⟨p526,hp526,h⟩ := bind_some h
        have hJp526 : ∀ a w,St M w0 73 [(3,tv (n1 5)),(2,tv (n0 1))] [box (rSapi_Field.cs (Sapi_Field.mk ([] : Str) ([] : Str) ([] : Str) (0:Int) (0:Int) (0:Int) ([] : (List Str)) ([] : (List Int)))) (n0 1),box (rSapi_Field.cs p526) (n1 5)] a w → K5 a w := by
         intro a w hst
         obtain rfl := sj h
         exact hJp519 _ _ (hst.pick [0,1])
        replace h := hp526
        clear hp526
        refine wp_test 0 hst rfl (fun b528 => ?_) (fun b528 => ?_)
        ·replace h := ite_t b528 h
         refine wp_reg mixed [v0 (box (rSapi_Field.cs (Sapi_Field.mk (f_).Name (f_).Of ([] : Str) (f_).Kind (0:Int) (0:Int) ([] : (List Str)) ([] : (List Int)))) (n1 5)),v0 (box (rSapi_Field.cs (Sapi_Field.mk (f_).Name (f_).Of (f_).Up (f_).Kind (0:Int) (0:Int) ([] : (List Str)) ([] : (List Int)))) (n1 5))] hst (fun _ => .p rfl (op_field fld44_1 (.t 2 rfl)) <| .p rfl (op_loadT (R := rS) (u := (f_).Of) tok9 (.t 0 rfl) rfl) <| .p rfl (op_field fld44_2 (.t 4 rfl)) <| .p rfl (op_loadT (R := rS) (u := (f_).Up) tok9 (.t 0 rfl) rfl) <| .u [1] rfl rfl (op_fieldB fld44_1 (.t 5 rfl)) <| .e [] [1] [2] rfl rfl rfl rfl (op_storeBf (R := rS) (a := (f_).Of) (Ts := (rSapi_Field.cs (Sapi_Field.mk (f_).Name ([] : Str) ([] : Str) (f_).Kind (0:Int) (0:Int) ([] : (List Str)) ([] : (List Int))))) (off := 1) tok9 (.t 0 rfl) (.t 3 rfl) (leb rfl)) <| .u [2] rfl rfl (op_fieldB fld44_2 (.t 6 rfl)) <| .e [] [2] [3] rfl rfl rfl rfl (op_storeBf (R := rS) (a := (f_).Up) (Ts := (rSapi_Field.cs (Sapi_Field.mk (f_).Name (f_).Of ([] : Str) (f_).Kind (0:Int) (0:Int) ([] : (List Str)) ([] : (List Int))))) (off := 2) tok9 (.t 0 rfl) (.t 2 rfl) (leb rfl)) <| .nil _ _) (by kernel_rfl) (fun n18 a w hst => ?_)
         replace hst : St M w0 73 [(3,tv (n1 5)),(2,tv (n0 1))] [box (rSapi_Field.cs (Sapi_Field.mk ([] : Str) ([] : Str) ([] : Str) (0:Int) (0:Int) (0:Int) ([] : (List Str)) ([] : (List Int)))) (n0 1),box (rSapi_Field.cs (Sapi_Field.mk (f_).Name (f_).Of (f_).Up (f_).Kind (0:Int) (0:Int) ([] : (List Str)) ([] : (List Int)))) (n1 5)] a w := (hst.pick [7,9])
         obtain rfl := sj h
         exact hJp526 _ _ (hst.pick [0,1])
        ·replace h := ite_f b528 h
         refine wp_skip ?_
         obtain rfl := sj h
         exact hJp526 _ _ (hst.pick [1,3])
  replace h := hp277
  clear hp277
  refine wp_test 0 hst rfl (fun b538 => ?_) (fun b538 => ?_)
  ·replace h := ite_t b538 h
   refine wp_skip ?_
   obtain rfl := sj h
   exact hJp277 _ _ (hst.pick [0,1,2,3,4])
  ·replace h := ite_f b538 h
   refine wp_seq_k (fun K534 hK534 => ?_)
   refine wp_reg mixed [] hst (fun _ => .p rfl (op_eql (.t 1 rfl) .k) <| .p rfl (op_assign (.t 0 rfl)) <| .nil _ _) (by kernel_rfl) (fun n6 a w hst => ?_)
   replace hst : St M w0 73 [(16,tb ((f_).Kind == (4:Int))),(10,ti (f_).Kind),(3,tv (n1 5)),(1,tptr (rSapi_Field.cs f_)),(2,tv (n0 1))] [box (rSapi_Field.cs (Sapi_Field.mk ([] : Str) ([] : Str) ([] : Str) (0:Int) (0:Int) (0:Int) ([] : (List Str)) ([] : (List Int)))) (n0 1),box (rSapi_Field.cs (Sapi_Field.mk (f_).Name ([] : Str) ([] : Str) (f_).Kind (0:Int) (0:Int) ([] : (List Str)) ([] : (List Int)))) (n1 5)] a w := (hst.pick [1,2,3,4,5])
   refine hK534 _ _ ?_
   try clear hK534 K534
   obtain ⟨p535,hp535,h⟩ := bind_some h
   have hJp535 : ∀ a w,St M w0 73 [(16,tb p535),(10,ti (f_).Kind),(3,tv (n1 5)),(1,tptr (rSapi_Field.cs f_)),(2,tv (n0 1))] [box (rSapi_Field.cs (Sapi_Field.mk ([] : Str) ([] : Str) ([] : Str) (0:Int) (0:Int) (0:Int) ([] : (List Str)) ([] : (List Int)))) (n0 1),box (rSapi_Field.cs (Sapi_Field.mk (f_).Name ([] : Str) ([] : Str) (f_).Kind (0:Int) (0:Int) ([] : (List Str)) ([] : (List Int)))) (n1 5)] a w → K275 a w := by
    intro a w hst
    obtain rfl := sj h
    exact hJp277 _ _ (hst.pick [0,1,2,3,4])
   replace h := hp535
   clear hp535
   refine wp_test 0 hst rfl (fun b537 => ?_) (fun b537 => ?_)
   ·replace h := ite_t b537 h
    refine wp_skip ?_
    obtain rfl := sj h
    exact hJp535 _ _ (hst.pick [0,1,2,3,4])
   ·replace h := ite_f b537 h
    refine wp_reg mixed [] hst (fun _ => .p rfl (op_eql (.t 1 rfl) .k) <| .p rfl (op_assign (.t 0 rfl)) <| .nil _ _) (by kernel_rfl) (fun n7 a w hst => ?_)
    replace hst : St M w0 73 [(16,tb ((f_).Kind == (5:Int))),(10,ti (f_).Kind),(3,tv (n1 5)),(1,tptr (rSapi_Field.cs f_)),(2,tv (n0 1))] [box (rSapi_Field.cs (Sapi_Field.mk ([] : Str) ([] : Str) ([] : Str) (0:Int) (0:Int) (0:Int) ([] : (List Str)) ([] : (List Int)))) (n0 1),box (rSapi_Field.cs (Sapi_Field.mk (f_).Name ([] : Str) ([] : Str) (f_).Kind (0:Int) (0:Int) ([] : (List Str)) ([] : (List Int)))) (n1 5)] a w := (hst.pick [1,2,3,4,5])
    obtain rfl := sj h
    exact hJp535 _ _ (hst.pick [0,1,2,3,4])

/- slices.Equal[[]string,string] -/
noncomputable def fslices_Equal_string (s1_ : (List Str)) (s2_ : (List Str)) : Option (Bool) := (if ((s1_.length : Int) != (s2_.length : Int)) = true then (some false) else (tailrec (fun (s7 : Int) => ((if (decide (s7 < (s1_.length : Int))) = true then (idx s1_ s7).bind fun t18 => (idx s2_ s7).bind fun t22 => (if (t18 != t22) = true then (some (.inr (.inr false))) else (some (.inl (IntKind.i64.wrap (s7 + (1:Int)))))) else (some (.inr (.inl ())))) : Option ((Int) ⊕ ((Unit) ⊕ (Bool))))) (0:Int)).bind fun (e8 : (Unit) ⊕ (Bool)) => (match e8 with | .inl p25 => (some true) | .inr p26 => (some p26)))
set_option maxRecDepth 100000 in
set_option maxHeartbeats 4000000 in
theorem slices_Equal_string_ok {s1_ : (List Str)} {s2_ : (List Str)} {r : Bool} (h : fslices_Equal_string s1_ s2_ = some r) : FnOk Tryz.prog 70 [tsl rS s1_,tsl rS s2_] [] (fun _ => []) (fun _ => tb r) := by
 unfold fslices_Equal_string at h
 refine FnOk.enter Tryz.func70 rfl Tryz.ntmps70 (leb rfl) (fun M0 M w0 a hpl hst => ?_)
 replace hst : St M w0 26 [(0,tsl rS s1_),(1,tsl rS s2_)] [] a w0 := hst
 refine wp_seq_k (fun K1 hK1 => ?_)
 refine wp_reg mixed [] hst (fun _ => .p rfl (op_assign .k) <| .nil _ _) (by kernel_rfl) (fun n0 a w hst => ?_)
 replace hst : St M w0 26 [(0,tsl rS s1_),(1,tsl rS s2_)] [] a w := (hst.pick [1,2])
 refine hK1 _ _ ?_
 try clear hK1 K1
 refine wp_seq_k (fun K2 hK2 => ?_)
 refine wp_seq_k (fun K3 hK3 => ?_)
 refine wp_reg mixed [] hst (fun _ => .q 0 rfl <| .p rfl (op_len Tryz.underlying38 (.t 0 rfl)) <| .q 3 rfl <| .p rfl (op_len Tryz.underlying38 (.t 0 rfl)) <| .p rfl (op_neq (.t 2 rfl) (.t 0 rfl)) <| .nil _ _) (by kernel_rfl) (fun n1 a w hst => ?_)
 replace hst : St M w0 26 [(10,tb ((s1_.length : Int) != (s2_.length : Int))),(0,tsl rS s1_),(1,tsl rS s2_)] [] a w := (hst.pick [4,5,6])
 refine hK3 _ _ ?_
 try clear hK3 K3
 refine wp_test 0 hst rfl (fun b37 => ?_) (fun b37 => ?_)
 ·replace h := ite_t b37 h
  refine wp_seq_k (fun K4 hK4 => ?_)
  refine wp_reg mixed [] hst (fun _ => .p rfl (op_assign .k) <| .nil _ _) (by kernel_rfl) (fun n2 a w hst => ?_)
  replace hst : St M w0 26 [(4,tb false)] [] a w := (hst.pick [0])
  refine hK4 _ _ ?_
  try clear hK4 K4
  refine wp_ret ?_
  obtain rfl := sj h
  exact ret_st undef [] hpl hst rfl (.tmp (.t 0 rfl) .nil) rfl rfl rfl
 ·replace h := ite_f b37 h
  refine wp_skip ?_
  refine hK2 _ _ ?_
  try clear hK2 K2
  refine wp_seq_k (fun K5 hK5 => ?_)
  refine wp_seq_k (fun K6 hK6 => ?_)
  refine wp_reg mixed [] hst (fun _ => .q 1 rfl <| .p rfl (op_len Tryz.underlying38 (.t 0 rfl)) <| .p rfl (op_move .k) <| .nil _ _) (by kernel_rfl) (fun n3 a w hst => ?_)
  replace hst : St M w0 26 [(12,ti (s1_.length : Int)),(13,ti (0:Int)),(0,tsl rS s1_),(1,tsl rS s2_)] [] a w := (hst.pick [1,2,4,5])
  refine hK6 _ _ ?_
  try clear hK6 K6
  obtain ⟨e8,he8,h⟩ := bind_some h
  have hJp25 : ∀ (p25 : Unit) a w,(.inl p25) = e8 → St M w0 26 [] [] a w → K5 a w := by
   intro p25 a w he hst
   subst he
   simp only at h
   refine hK5 _ _ ?_
   try clear hK5 K5
   refine wp_seq_k (fun K27 hK27 => ?_)
   refine wp_reg mixed [] hst (fun _ => .p rfl (op_assign .k) <| .nil _ _) (by kernel_rfl) (fun n9 a w hst => ?_)
   replace hst : St M w0 26 [(4,tb true)] [] a w := (hst.pick [0])
   refine hK27 _ _ ?_
   try clear hK27 K27
   refine wp_ret ?_
   obtain rfl := sj h
   exact ret_st undef [] hpl hst rfl (.tmp (.t 0 rfl) .nil) rfl rfl rfl
  have hJp26 : ∀ (p26 : Bool) a w,(.inr p26) = e8 → St M w0 26 [(4,tb p26)] [] a w → Ret Tryz.prog Tryz.f70 M0 [] w0 (fun _ => []) (fun _ => tb r) .ret a w := by
   intro p26 a w he hst
   subst he
   simp only at h
   obtain rfl := sj h
   exact ret_st undef [] hpl hst rfl (.tmp (.t 0 rfl) .nil) rfl rfl rfl
  refine wp_block ?_
  refine wp_loopK _ (fun (s7 : Int) a w => St M w0 26 [(12,ti (s1_.length : Int)),(13,ti s7),(0,tsl rS s1_),(1,tsl rS s2_)] [] a w) _ _ he8 (hst.pick [0,1,2,3]) ?_
  clear h
  intro s7 o a w K28 hI h ho hK28
  have hst := hI
  clear hI
  refine wp_seq_k (fun K29 hK29 => ?_)
  refine wp_reg mixed [] hst (fun _ => .p rfl (op_lss (.t 1 rfl) (.t 0 rfl)) <| .nil _ _) (by kernel_rfl) (fun n4 a w hst => ?_)
  replace hst : St M w0 26 [(14,tb (decide (s7 < (s1_.length : Int)))),(12,ti (s1_.length : Int)),(13,ti s7),(0,tsl rS s1_),(1,tsl rS s2_)] [] a w := (hst.pick [0,1,2,3,4])
  refine hK29 _ _ ?_
  try clear hK29 K29
  refine wp_seq_k (fun K30 hK30 => ?_)
  refine wp_test 0 hst rfl (fun b36 => ?_) (fun b36 => ?_)
  ·replace h := ite_t b36 h
   refine wp_skip ?_
   refine hK30 _ _ ?_
   try clear hK30 K30
   refine wp_seq_k (fun K31 hK31 => ?_)
   refine wp_block ?_
   refine wp_seq_k (fun K32 hK32 => ?_)
   refine wp_reg mixed [] hst (fun _ => .q 2 rfl <| .p rfl (op_assign (.t 0 rfl)) <| .nil _ _) (by kernel_rfl) (fun n5 a w hst => ?_)
   replace hst : St M w0 26 [(5,ti s7),(12,ti (s1_.length : Int)),(13,ti s7),(0,tsl rS s1_),(1,tsl rS s2_)] [] a w := (hst.pick [1,3,4,5,6])
   refine hK32 _ _ ?_
   try clear hK32 K32
   refine wp_seq_k (fun K33 hK33 => ?_)
   obtain ⟨t18,ht18,h⟩ := bind_some h
   obtain ⟨t22,ht22,h⟩ := bind_some h
   refine wp_reg mixed [] hst (fun _ => .q 3 rfl <| .q 1 rfl <| .p rfl (op_index Tryz.underlying38 tok9 (.t 1 rfl) (.t 0 rfl) ht18) <| .p rfl (op_load tok9 (.t 0 rfl)) <| .q 8 rfl <| .q 5 rfl <| .p rfl (op_index Tryz.underlying38 tok9 (.t 1 rfl) (.t 0 rfl) ht22) <| .p rfl (op_load tok9 (.t 0 rfl)) <| .p rfl (op_neqS (.t 4 rfl) (.t 0 rfl)) <| .nil _ _) (by kernel_rfl) (fun n6 a w hst => ?_)
   replace hst : St M w0 26 [(24,tb (t18 != t22)),(12,ti (s1_.length : Int)),(13,ti s7),(0,tsl rS s1_),(1,tsl rS s2_)] [] a w := (hst.pick [8,10,11,12,13])
   refine hK33 _ _ ?_
   try clear hK33 K33
   refine wp_test 0 hst rfl (fun b35 => ?_) (fun b35 => ?_)
   ·replace h := ite_t b35 h
    refine wp_seq_k (fun K34 hK34 => ?_)
    refine wp_reg mixed [] hst (fun _ => .p rfl (op_assign .k) <| .nil _ _) (by kernel_rfl) (fun n7 a w hst => ?_)
    replace hst : St M w0 26 [(4,tb false)] [] a w := (hst.pick [0])
    refine hK34 _ _ ?_
    try clear hK34 K34
    refine wp_ret ?_
    exact hJp26 _ _ _ (ho _ (sj h).symm) (hst.pick [0])
   ·replace h := ite_f b35 h
    refine wp_skip ?_
    refine hK31 _ _ ?_
    try clear hK31 K31
    refine wp_reg mixed [] hst (fun _ => .p rfl (op_add (.t 2 rfl) .k) <| .q 0 rfl <| .nil _ _) (by kernel_rfl) (fun n8 a w hst => ?_)
    replace hst : St M w0 26 [(13,ti (IntKind.i64.wrap (s7 + (1:Int)))),(12,ti (s1_.length : Int)),(0,tsl rS s1_),(1,tsl rS s2_)] [] a w := (hst.pick [1,3,4,5])
    exact hK28 _ _ _ (sj h).symm (hst.pick [1,0,2,3])
  ·replace h := ite_f b36 h
   refine wp_exit ?_
   exact hJp25 _ _ _ (ho _ (sj h).symm) (hst.pick [])

/- slices.Equal[[]int,int] -/
noncomputable def fslices_Equal_int (s1_ : (List Int)) (s2_ : (List Int)) : Option (Bool) := (if ((s1_.length : Int) != (s2_.length : Int)) = true then (some false) else (tailrec (fun (s7 : Int) => ((if (decide (s7 < (s1_.length : Int))) = true then (idx s1_ s7).bind fun t18 => (idx s2_ s7).bind fun t22 => (if (t18 != t22) = true then (some (.inr (.inr false))) else (some (.inl (IntKind.i64.wrap (s7 + (1:Int)))))) else (some (.inr (.inl ())))) : Option ((Int) ⊕ ((Unit) ⊕ (Bool))))) (0:Int)).bind fun (e8 : (Unit) ⊕ (Bool)) => (match e8 with | .inl p25 => (some true) | .inr p26 => (some p26)))
set_option maxRecDepth 100000 in
set_option maxHeartbeats 4000000 in
theorem slices_Equal_int_ok {s1_ : (List Int)} {s2_ : (List Int)} {r : Bool} (h : fslices_Equal_int s1_ s2_ = some r) : FnOk Tryz.prog 102 [tsl rI s1_,tsl rI s2_] [] (fun _ => []) (fun _ => tb r) := by
 unfold fslices_Equal_int at h
 refine FnOk.enter Tryz.func102 rfl Tryz.ntmps102 (leb rfl) (fun M0 M w0 a hpl hst => ?_)
 replace hst : St M w0 26 [(0,tsl rI s1_),(1,tsl rI s2_)] [] a w0 := hst
 refine wp_seq_k (fun K1 hK1 => ?_)
 refine wp_reg mixed [] hst (fun _ => .p rfl (op_assign .k) <| .nil _ _) (by kernel_rfl) (fun n0 a w hst => ?_)
 replace hst : St M w0 26 [(0,tsl rI s1_),(1,tsl rI s2_)] [] a w := (hst.pick [1,2])
 refine hK1 _ _ ?_
 try clear hK1 K1
 refine wp_seq_k (fun K2 hK2 => ?_)
 refine wp_seq_k (fun K3 hK3 => ?_)
 refine wp_reg mixed [] hst (fun _ => .q 0 rfl <| .p rfl (op_len Tryz.underlying22 (.t 0 rfl)) <| .q 3 rfl <| .p rfl (op_len Tryz.underlying22 (.t 0 rfl)) <| .p rfl (op_neq (.t 2 rfl) (.t 0 rfl)) <| .nil _ _) (by kernel_rfl) (fun n1 a w hst => ?_)
 replace hst : St M w0 26 [(10,tb ((s1_.length : Int) != (s2_.length : Int))),(0,tsl rI s1_),(1,tsl rI s2_)] [] a w := (hst.pick [4,5,6])
 refine hK3 _ _ ?_
 try clear hK3 K3
 refine wp_test 0 hst rfl (fun b37 => ?_) (fun b37 => ?_)
 ·replace h := ite_t b37 h
  refine wp_seq_k (fun K4 hK4 => ?_)
  refine wp_reg mixed [] hst (fun _ => .p rfl (op_assign .k) <| .nil _ _) (by kernel_rfl) (fun n2 a w hst => ?_)
  replace hst : St M w0 26 [(4,tb false)] [] a w := (hst.pick [0])
  refine hK4 _ _ ?_
  try clear hK4 K4
  refine wp_ret ?_
  obtain rfl := sj h
  exact ret_st undef [] hpl hst rfl (.tmp (.t 0 rfl) .nil) rfl rfl rfl
 ·replace h := ite_f b37 h
  refine wp_skip ?_
  refine hK2 _ _ ?_
  try clear hK2 K2
  refine wp_seq_k (fun K5 hK5 => ?_)
  refine wp_seq_k (fun K6 hK6 => ?_)
  refine wp_reg mixed [] hst (fun _ => .q 1 rfl <| .p rfl (op_len Tryz.underlying22 (.t 0 rfl)) <| .p rfl (op_move .k) <| .nil _ _) (by kernel_rfl) (fun n3 a w hst => ?_)
  replace hst : St M w0 26 [(12,ti (s1_.length : Int)),(13,ti (0:Int)),(0,tsl rI s1_),(1,tsl rI s2_)] [] a w := (hst.pick [1,2,4,5])
  refine hK6 _ _ ?_
  try clear hK6 K6
  obtain ⟨e8,he8,h⟩ := bind_some h
  have hJp25 : ∀ (p25 : Unit) a w,(.inl p25) = e8 → St M w0 26 [] [] a w → K5 a w := by
   intro p25 a w he hst
   subst he
   simp only at h
   refine hK5 _ _ ?_
   try clear hK5 K5
   refine wp_seq_k (fun K27 hK27 => ?_)
   refine wp_reg mixed [] hst (fun _ => .p rfl (op_assign .k) <| .nil _ _) (by kernel_rfl) (fun n9 a w hst => ?_)
   replace hst : St M w0 26 [(4,tb true)] [] a w := (hst.pick [0])
   refine hK27 _ _ ?_
   try clear hK27 K27
   refine wp_ret ?_
   obtain rfl := sj h
   exact ret_st undef [] hpl hst rfl (.tmp (.t 0 rfl) .nil) rfl rfl rfl
  have hJp26 : ∀ (p26 : Bool) a w,(.inr p26) = e8 → St M w0 26 [(4,tb p26)] [] a w → Ret Tryz.prog Tryz.f102 M0 [] w0 (fun _ => []) (fun _ => tb r) .ret a w := by
   intro p26 a w he hst
   subst he
   simp only at h
   obtain rfl := sj h
   exact ret_st undef [] hpl hst rfl (.tmp (.t 0 rfl) .nil) rfl rfl rfl
  refine wp_block ?_
  refine wp_loopK _ (fun (s7 : Int) a w => St M w0 26 [(12,ti (s1_.length : Int)),(13,ti s7),(0,tsl rI s1_),(1,tsl rI s2_)] [] a w) _ _ he8 (hst.pick [0,1,2,3]) ?_
  clear h
  intro s7 o a w K28 hI h ho hK28
  have hst := hI
  clear hI
  refine wp_seq_k (fun K29 hK29 => ?_)
  refine wp_reg mixed [] hst (fun _ => .p rfl (op_lss (.t 1 rfl) (.t 0 rfl)) <| .nil _ _) (by kernel_rfl) (fun n4 a w hst => ?_)
  replace hst : St M w0 26 [(14,tb (decide (s7 < (s1_.length : Int)))),(12,ti (s1_.length : Int)),(13,ti s7),(0,tsl rI s1_),(1,tsl rI s2_)] [] a w := (hst.pick [0,1,2,3,4])
  refine hK29 _ _ ?_
  try clear hK29 K29
  refine wp_seq_k (fun K30 hK30 => ?_)
  refine wp_test 0 hst rfl (fun b36 => ?_) (fun b36 => ?_)
  ·replace h := ite_t b36 h
   refine wp_skip ?_
   refine hK30 _ _ ?_
   try clear hK30 K30
   refine wp_seq_k (fun K31 hK31 => ?_)
   refine wp_block ?_
   refine wp_seq_k (fun K32 hK32 => ?_)
   refine wp_reg mixed [] hst (fun _ => .q 2 rfl <| .p rfl (op_assign (.t 0 rfl)) <| .nil _ _) (by kernel_rfl) (fun n5 a w hst => ?_)
   replace hst : St M w0 26 [(5,ti s7),(12,ti (s1_.length : Int)),(13,ti s7),(0,tsl rI s1_),(1,tsl rI s2_)] [] a w := (hst.pick [1,3,4,5,6])
   refine hK32 _ _ ?_
   try clear hK32 K32
   refine wp_seq_k (fun K33 hK33 => ?_)
   obtain ⟨t18,ht18,h⟩ := bind_some h
   obtain ⟨t22,ht22,h⟩ := bind_some h
   refine wp_reg mixed [] hst (fun _ => .q 3 rfl <| .q 1 rfl <| .p rfl (op_index Tryz.underlying22 tok3 (.t 1 rfl) (.t 0 rfl) ht18) <| .p rfl (op_load tok3 (.t 0 rfl)) <| .q 8 rfl <| .q 5 rfl <| .p rfl (op_index Tryz.underlying22 tok3 (.t 1 rfl) (.t 0 rfl) ht22) <| .p rfl (op_load tok3 (.t 0 rfl)) <| .p rfl (op_neq (.t 4 rfl) (.t 0 rfl)) <| .nil _ _) (by kernel_rfl) (fun n6 a w hst => ?_)
   replace hst : St M w0 26 [(24,tb (t18 != t22)),(12,ti (s1_.length : Int)),(13,ti s7),(0,tsl rI s1_),(1,tsl rI s2_)] [] a w := (hst.pick [8,10,11,12,13])
   refine hK33 _ _ ?_
   try clear hK33 K33
   refine wp_test 0 hst rfl (fun b35 => ?_) (fun b35 => ?_)
   ·replace h := ite_t b35 h
    refine wp_seq_k (fun K34 hK34 => ?_)
    refine wp_reg mixed [] hst (fun _ => .p rfl (op_assign .k) <| .nil _ _) (by kernel_rfl) (fun n7 a w hst => ?_)
    replace hst : St M w0 26 [(4,tb false)] [] a w := (hst.pick [0])
    refine hK34 _ _ ?_
    try clear hK34 K34
    refine wp_ret ?_
    exact hJp26 _ _ _ (ho _ (sj h).symm) (hst.pick [0])
   ·replace h := ite_f b35 h
    refine wp_skip ?_
    refine hK31 _ _ ?_
    try clear hK31 K31
    refine wp_reg mixed [] hst (fun _ => .p rfl (op_add (.t 2 rfl) .k) <| .q 0 rfl <| .nil _ _) (by kernel_rfl) (fun n8 a w hst => ?_)
    replace hst : St M w0 26 [(13,ti (IntKind.i64.wrap (s7 + (1:Int)))),(12,ti (s1_.length : Int)),(0,tsl rI s1_),(1,tsl rI s2_)] [] a w := (hst.pick [1,3,4,5])
    exact hK28 _ _ _ (sj h).symm (hst.pick [1,0,2,3])
  ·replace h := ite_f b36 h
   refine wp_exit ?_
   exact hJp25 _ _ _ (ho _ (sj h).symm) (hst.pick [])

/- diorama/schema.sameField -/
noncomputable def fschema_sameField (a_ : Sapi_Field) (b_ : Sapi_Field) : Option (Bool) := (opt ((((((((a_).Name == (b_).Name) && ((a_).Of == (b_).Of)) && ((a_).Up == (b_).Up)) && ((a_).Kind == (b_).Kind)) && ((a_).Lo == (b_).Lo)) && ((a_).Hi == (b_).Hi)) == true) (fslices_Equal_string (a_).Words (b_).Words) default).bind fun t50 => (opt (((((((((a_).Name == (b_).Name) && ((a_).Of == (b_).Of)) && ((a_).Up == (b_).Up)) && ((a_).Kind == (b_).Kind)) && ((a_).Lo == (b_).Lo)) && ((a_).Hi == (b_).Hi)) && t50) == true) (fslices_Equal_int (a_).Weights (b_).Weights) default).bind fun t57 => (some (((((((((a_).Name == (b_).Name) && ((a_).Of == (b_).Of)) && ((a_).Up == (b_).Up)) && ((a_).Kind == (b_).Kind)) && ((a_).Lo == (b_).Lo)) && ((a_).Hi == (b_).Hi)) && t50) && t57))
set_option maxRecDepth 100000 in
set_option maxHeartbeats 4000000 in
theorem schema_sameField_ok {a_ : Sapi_Field} {b_ : Sapi_Field} {r : Bool} (h : fschema_sameField a_ b_ = some r) : FnOk Tryz.prog 67 [rSapi_Field.ty a_,rSapi_Field.ty b_] [] (fun _ => []) (fun _ => tb r) := by
 unfold fschema_sameField at h
 refine FnOk.enter Tryz.func67 rfl Tryz.ntmps67 (leb rfl) (fun M0 M w0 a hpl hst => ?_)
 replace hst : St M w0 59 [(0,rSapi_Field.ty a_),(1,rSapi_Field.ty b_)] [] a w0 := hst
 refine wp_seq_k (fun K1 hK1 => ?_)
 refine wp_reg mixed [] hst (fun _ => .p rfl (op_boxR (R := rSapi_Field) (u := a_) (.t 0 rfl)) <| .p rfl (op_boxR (R := rSapi_Field) (u := b_) (.t 2 rfl)) <| .p rfl (op_assign .k) <| .nil _ _) (by kernel_rfl) (fun n0 a w hst => ?_)
 replace hst : St M w0 59 [(2,tptr (rSapi_Field.cs a_)),(3,tptr (rSapi_Field.cs b_))] [] a w := (hst.pick [0,1])
 refine hK1 _ _ ?_
 try clear hK1 K1
 refine wp_seq_k (fun K2 hK2 => ?_)
 obtain ⟨t50,ht50,h⟩ := bind_some h
 obtain ⟨t57,ht57,h⟩ := bind_some h
 refine wp_reg mixed [] hst (fun _ => .p rfl (op_field fld44_0 (.t 0 rfl)) <| .p rfl (op_loadT (R := rS) (u := (a_).Name) tok9 (.t 0 rfl) rfl) <| .p rfl (op_field fld44_0 (.t 3 rfl)) <| .p rfl (op_loadT (R := rS) (u := (b_).Name) tok9 (.t 0 rfl) rfl) <| .p rfl (op_eqlS (.t 2 rfl) (.t 0 rfl)) <| .q 0 rfl <| .g rfl rfl (.b 0 rfl) (fun _ => op_field fld44_1 (.t 6 rfl)) <| .g rfl rfl (.b 1 rfl) (fun hc => op_loadT (R := rS) (u := (a_).Of) tok9 (.cond (.t 0 rfl) hc) rfl) <| .g rfl rfl (.b 2 rfl) (fun _ => op_field fld44_1 (.t 9 rfl)) <| .g rfl rfl (.b 3 rfl) (fun hc => op_loadT (R := rS) (u := (b_).Of) tok9 (.cond (.t 0 rfl) hc) rfl) <| .g rfl rfl (.b 4 rfl) (fun hc => op_eqlS (.cond (.t 2 rfl) hc) (.cond (.t 0 rfl) hc)) <| .p rfl (op_and (.t 5 rfl) (fun hp => (.cond (.t 0 rfl) (beqT hp)))) <| .q 0 rfl <| .g rfl rfl (.b 0 rfl) (fun _ => op_field fld44_2 (.t 13 rfl)) <| .g rfl rfl (.b 1 rfl) (fun hc => op_loadT (R := rS) (u := (a_).Up) tok9 (.cond (.t 0 rfl) hc) rfl) <| .g rfl rfl (.b 2 rfl) (fun _ => op_field fld44_2 (.t 16 rfl)) <| .g rfl rfl (.b 3 rfl) (fun hc => op_loadT (R := rS) (u := (b_).Up) tok9 (.cond (.t 0 rfl) hc) rfl) <| .g rfl rfl (.b 4 rfl) (fun hc => op_eqlS (.cond (.t 2 rfl) hc) (.cond (.t 0 rfl) hc)) <| .p rfl (op_and (.t 5 rfl) (fun hp => (.cond (.t 0 rfl) (beqT hp)))) <| .q 0 rfl <| .g rfl rfl (.b 0 rfl) (fun _ => op_field fld44_3 (.t 20 rfl)) <| .g rfl rfl (.b 1 rfl) (fun hc => op_loadT (R := rI) (u := (a_).Kind) tok3 (.cond (.t 0 rfl) hc) rfl) <| .g rfl rfl (.b 2 rfl) (fun _ => op_field fld44_3 (.t 23 rfl)) <| .g rfl rfl (.b 3 rfl) (fun hc => op_loadT (R := rI) (u := (b_).Kind) tok3 (.cond (.t 0 rfl) hc) rfl) <| .g rfl rfl (.b 4 rfl) (fun hc => op_eql (.cond (.t 2 rfl) hc) (.cond (.t 0 rfl) hc)) <| .p rfl (op_and (.t 5 rfl) (fun hp => (.cond (.t 0 rfl) (beqT hp)))) <| .q 0 rfl <| .g rfl rfl (.b 0 rfl) (fun _ => op_field fld44_4 (.t 27 rfl)) <| .g rfl rfl (.b 1 rfl) (fun hc => op_loadT (R := rI) (u := (a_).Lo) tok3 (.cond (.t 0 rfl) hc) rfl) <| .g rfl rfl (.b 2 rfl) (fun _ => op_field fld44_4 (.t 30 rfl)) <| .g rfl rfl (.b 3 rfl) (fun hc => op_loadT (R := rI) (u := (b_).Lo) tok3 (.cond (.t 0 rfl) hc) rfl) <| .g rfl rfl (.b 4 rfl) (fun hc => op_eql (.cond (.t 2 rfl) hc) (.cond (.t 0 rfl) hc)) <| .p rfl (op_and (.t 5 rfl) (fun hp => (.cond (.t 0 rfl) (beqT hp)))) <| .q 0 rfl <| .g rfl rfl (.b 0 rfl) (fun _ => op_field fld44_5 (.t 34 rfl)) <| .g rfl rfl (.b 1 rfl) (fun hc => op_loadT (R := rI) (u := (a_).Hi) tok3 (.cond (.t 0 rfl) hc) rfl) <| .g rfl rfl (.b 2 rfl) (fun _ => op_field fld44_5 (.t 37 rfl)) <| .g rfl rfl (.b 3 rfl) (fun hc => op_loadT (R := rI) (u := (b_).Hi) tok3 (.cond (.t 0 rfl) hc) rfl) <| .g rfl rfl (.b 4 rfl) (fun hc => op_eql (.cond (.t 2 rfl) hc) (.cond (.t 0 rfl) hc)) <| .p rfl (op_and (.t 5 rfl) (fun hp => (.cond (.t 0 rfl) (beqT hp)))) <| .q 0 rfl <| .g rfl rfl (.b 0 rfl) (fun _ => op_field fld44_6 (.t 41 rfl)) <| .g rfl rfl (.b 1 rfl) (fun hc => op_loadT (R := (rSl rS)) (u := (a_).Words) tok38 (.cond (.t 0 rfl) hc) rfl) <| .g rfl rfl (.b 2 rfl) (fun _ => op_field fld44_6 (.t 44 rfl)) <| .g rfl rfl (.b 3 rfl) (fun hc => op_loadT (R := (rSl rS)) (u := (b_).Words) tok38 (.cond (.t 0 rfl) hc) rfl) <| .g rfl rfl (.b 4 rfl) (fun hc => op_callF call70 (slices_Equal_string_ok (opt_t ht50 hc)) (.cons (.of (.cond (.t 2 rfl) hc)) <| .cons (.of (.cond (.t 0 rfl) hc)) <| .nil)) <| .p rfl (op_and (.t 5 rfl) (fun hp => (.cond (.t 0 rfl) (beqT hp)))) <| .q 0 rfl <| .g rfl rfl (.b 0 rfl) (fun _ => op_field fld44_7 (.t 48 rfl)) <| .g rfl rfl (.b 1 rfl) (fun hc => op_loadT (R := (rSl rI)) (u := (a_).Weights) tok22 (.cond (.t 0 rfl) hc) rfl) <| .g rfl rfl (.b 2 rfl) (fun _ => op_field fld44_7 (.t 51 rfl)) <| .g rfl rfl (.b 3 rfl) (fun hc => op_loadT (R := (rSl rI)) (u := (b_).Weights) tok22 (.cond (.t 0 rfl) hc) rfl) <| .g rfl rfl (.b 4 rfl) (fun hc => op_callF call102 (slices_Equal_int_ok (opt_t ht57 hc)) (.cons (.of (.cond (.t 2 rfl) hc)) <| .cons (.of (.cond (.t 0 rfl) hc)) <| .nil)) <| .p rfl (op_and (.t 5 rfl) (fun hp => (.cond (.t 0 rfl) (beqT hp)))) <| .p rfl (op_assign (.t 0 rfl)) <| .nil _ _) (by kernel_rfl) (fun n1 a w hst => ?_)
 replace hst : St M w0 59 [(4,tb (((((((((a_).Name == (b_).Name) && ((a_).Of == (b_).Of)) && ((a_).Up == (b_).Up)) && ((a_).Kind == (b_).Kind)) && ((a_).Lo == (b_).Lo)) && ((a_).Hi == (b_).Hi)) && t50) && t57))] [] a w := (hst.pick [54])
 refine hK2 _ _ ?_
 try clear hK2 K2
 refine wp_ret ?_
 obtain rfl := sj h
 exact ret_st undef [] hpl hst rfl (.tmp (.t 0 rfl) .nil) rfl rfl rfl

/- diorama/schema.all[string]$1 -/
noncomputable def fschema_all_stringq1 (x_ : Str) (c0_ : (Str → Option Bool)) : Option (Bool) := (c0_ x_).bind fun t6 => (some (!t6))
set_option maxRecDepth 100000 in
set_option maxHeartbeats 4000000 in
theorem schema_all_stringq1_ok {x_ : Str} {c0_ : (Str → Option Bool)} {r : Bool} (h : fschema_all_stringq1 x_ c0_ = some r) : FnOk Tryz.prog 143 [tv (.string (sB x_)),tptr (rF142.cs c0_)] [] (fun _ => []) (fun _ => tb r) := by
 unfold fschema_all_stringq1 at h
 refine FnOk.enter Tryz.func143 rfl Tryz.ntmps143 (leb rfl) (fun M0 M w0 a hpl hst => ?_)
 replace hst : St M w0 8 [(0,tv (.string (sB x_))),(1,tptr (rF142.cs c0_))] [] a w0 := hst
 refine wp_seq_k (fun K1 hK1 => ?_)
 refine wp_reg mixed [] hst (fun _ => .p rfl (op_assign .k) <| .nil _ _) (by kernel_rfl) (fun n0 a w hst => ?_)
 replace hst : St M w0 8 [(0,tv (.string (sB x_))),(1,tptr (rF142.cs c0_))] [] a w := (hst.pick [1,2])
 refine hK1 _ _ ?_
 try clear hK1 K1
 refine wp_seq_k (fun K2 hK2 => ?_)
 obtain ⟨t6,ht6,h⟩ := bind_some h
 refine wp_reg mixed [] hst (fun _ => .p rfl (op_load tok142 (.t 1 rfl)) <| .q 1 rfl <| .p rfl (op_callT (u := x_) (.t 1 rfl) (.cons (.of (.t 0 rfl)) <| .nil) ht6) <| .p rfl (op_not (.t 0 rfl)) <| .p rfl (op_assign (.t 0 rfl)) <| .nil _ _) (by kernel_rfl) (fun n1 a w hst => ?_)
 replace hst : St M w0 8 [(3,tb (!t6))] [] a w := (hst.pick [4])
 refine hK2 _ _ ?_
 try clear hK2 K2
 refine wp_ret ?_
 obtain rfl := sj h
 exact ret_st undef [] hpl hst rfl (.tmp (.t 0 rfl) .nil) rfl rfl rfl

/- slices.IndexFunc[[]string,string] -/
noncomputable def fslices_IndexFunc_string (s_ : (List Str)) (f_ : (Str → Option Bool)) : Option (Int) := (tailrec (fun (s4 : Int) => ((if (decide (s4 < (s_.length : Int))) = true then (idx s_ s4).bind fun t14 => (f_ t14).bind fun t16 => (if t16 = true then (some (.inr (.inr s4))) else (some (.inl (IntKind.i64.wrap (s4 + (1:Int)))))) else (some (.inr (.inl ())))) : Option ((Int) ⊕ ((Unit) ⊕ (Int))))) (0:Int)).bind fun (e5 : (Unit) ⊕ (Int)) => (match e5 with | .inl p22 => (some (-1:Int)) | .inr p23 => (some p23))
set_option maxRecDepth 100000 in
set_option maxHeartbeats 4000000 in
theorem slices_IndexFunc_string_ok {s_ : (List Str)} {f_ : (Str → Option Bool)} {r : Int} (h : fslices_IndexFunc_string s_ f_ = some r) : FnOk Tryz.prog 161 [tsl rS s_,rF142.ty f_] [] (fun _ => []) (fun _ => ti r) := by
 unfold fslices_IndexFunc_string at h
 refine FnOk.enter Tryz.func161 rfl Tryz.ntmps161 (leb rfl) (fun M0 M w0 a hpl hst => ?_)
 replace hst : St M w0 19 [(0,tsl rS s_),(1,rF142.ty f_)] [] a w0 := hst
 refine wp_seq_k (fun K1 hK1 => ?_)
 refine wp_reg mixed [] hst (fun _ => .p rfl (op_assign .k) <| .nil _ _) (by kernel_rfl) (fun n0 a w hst => ?_)
 replace hst : St M w0 19 [(0,tsl rS s_),(1,rF142.ty f_)] [] a w := (hst.pick [1,2])
 refine hK1 _ _ ?_
 try clear hK1 K1
 refine wp_seq_k (fun K2 hK2 => ?_)
 refine wp_seq_k (fun K3 hK3 => ?_)
 refine wp_reg mixed [] hst (fun _ => .q 0 rfl <| .p rfl (op_len Tryz.underlying38 (.t 0 rfl)) <| .p rfl (op_move .k) <| .nil _ _) (by kernel_rfl) (fun n1 a w hst => ?_)
 replace hst : St M w0 19 [(7,ti (s_.length : Int)),(8,ti (0:Int)),(0,tsl rS s_),(1,rF142.ty f_)] [] a w := (hst.pick [1,2,3,4])
 refine hK3 _ _ ?_
 try clear hK3 K3
 obtain ⟨e5,he5,h⟩ := bind_some h
 have hJp22 : ∀ (p22 : Unit) a w,(.inl p22) = e5 → St M w0 19 [] [] a w → K2 a w := by
  intro p22 a w he hst
  subst he
  simp only at h
  refine hK2 _ _ ?_
  try clear hK2 K2
  refine wp_seq_k (fun K24 hK24 => ?_)
  refine wp_reg mixed [] hst (fun _ => .p rfl (op_assign .k) <| .nil _ _) (by kernel_rfl) (fun n7 a w hst => ?_)
  replace hst : St M w0 19 [(4,ti (-1:Int))] [] a w := (hst.pick [0])
  refine hK24 _ _ ?_
  try clear hK24 K24
  refine wp_ret ?_
  obtain rfl := sj h
  exact ret_st undef [] hpl hst rfl (.tmp (.t 0 rfl) .nil) rfl rfl rfl
 have hJp23 : ∀ (p23 : Int) a w,(.inr p23) = e5 → St M w0 19 [(4,ti p23)] [] a w → Ret Tryz.prog Tryz.f161 M0 [] w0 (fun _ => []) (fun _ => ti r) .ret a w := by
  intro p23 a w he hst
  subst he
  simp only at h
  obtain rfl := sj h
  exact ret_st undef [] hpl hst rfl (.tmp (.t 0 rfl) .nil) rfl rfl rfl
 refine wp_block ?_
 refine wp_loopK _ (fun (s4 : Int) a w => St M w0 19 [(7,ti (s_.length : Int)),(8,ti s4),(0,tsl rS s_),(1,rF142.ty f_)] [] a w) _ _ he5 (hst.pick [0,1,2,3]) ?_
 clear h
 intro s4 o a w K25 hI h ho hK25
 have hst := hI
 clear hI
 refine wp_seq_k (fun K26 hK26 => ?_)
 refine wp_reg mixed [] hst (fun _ => .p rfl (op_lss (.t 1 rfl) (.t 0 rfl)) <| .nil _ _) (by kernel_rfl) (fun n2 a w hst => ?_)
 replace hst : St M w0 19 [(9,tb (decide (s4 < (s_.length : Int)))),(7,ti (s_.length : Int)),(8,ti s4),(0,tsl rS s_),(1,rF142.ty f_)] [] a w := (hst.pick [0,1,2,3,4])
 refine hK26 _ _ ?_
 try clear hK26 K26
 refine wp_seq_k (fun K27 hK27 => ?_)
 refine wp_test 0 hst rfl (fun b33 => ?_) (fun b33 => ?_)
 ·replace h := ite_t b33 h
  refine wp_skip ?_
  refine hK27 _ _ ?_
  try clear hK27 K27
  refine wp_seq_k (fun K28 hK28 => ?_)
  refine wp_block ?_
  refine wp_seq_k (fun K29 hK29 => ?_)
  refine wp_reg mixed [] hst (fun _ => .q 2 rfl <| .p rfl (op_assign (.t 0 rfl)) <| .nil _ _) (by kernel_rfl) (fun n3 a w hst => ?_)
  replace hst : St M w0 19 [(5,ti s4),(7,ti (s_.length : Int)),(8,ti s4),(0,tsl rS s_),(1,rF142.ty f_)] [] a w := (hst.pick [1,3,4,5,6])
  refine hK29 _ _ ?_
  try clear hK29 K29
  refine wp_seq_k (fun K30 hK30 => ?_)
  obtain ⟨t14,ht14,h⟩ := bind_some h
  obtain ⟨t16,ht16,h⟩ := bind_some h
  refine wp_reg mixed [] hst (fun _ => .q 4 rfl <| .q 4 rfl <| .q 2 rfl <| .p rfl (op_index Tryz.underlying38 tok9 (.t 1 rfl) (.t 0 rfl) ht14) <| .p rfl (op_load tok9 (.t 0 rfl)) <| .p rfl (op_callT (u := t14) (.t 4 rfl) (.cons (.of (.t 0 rfl)) <| .nil) ht16) <| .nil _ _) (by kernel_rfl) (fun n4 a w hst => ?_)
  replace hst : St M w0 19 [(16,tb t16),(5,ti s4),(7,ti (s_.length : Int)),(8,ti s4),(0,tsl rS s_),(1,rF142.ty f_)] [] a w := (hst.pick [5,6,7,8,9,10])
  refine hK30 _ _ ?_
  try clear hK30 K30
  refine wp_test 0 hst rfl (fun b32 => ?_) (fun b32 => ?_)
  ·replace h := ite_t b32 h
   refine wp_seq_k (fun K31 hK31 => ?_)
   refine wp_reg mixed [] hst (fun _ => .q 1 rfl <| .p rfl (op_assign (.t 0 rfl)) <| .nil _ _) (by kernel_rfl) (fun n5 a w hst => ?_)
   replace hst : St M w0 19 [(4,ti s4)] [] a w := (hst.pick [1])
   refine hK31 _ _ ?_
   try clear hK31 K31
   refine wp_ret ?_
   exact hJp23 _ _ _ (ho _ (sj h).symm) (hst.pick [0])
  ·replace h := ite_f b32 h
   refine wp_skip ?_
   refine hK28 _ _ ?_
   try clear hK28 K28
   refine wp_reg mixed [] hst (fun _ => .p rfl (op_add (.t 3 rfl) .k) <| .q 0 rfl <| .nil _ _) (by kernel_rfl) (fun n6 a w hst => ?_)
   replace hst : St M w0 19 [(8,ti (IntKind.i64.wrap (s4 + (1:Int)))),(7,ti (s_.length : Int)),(0,tsl rS s_),(1,rF142.ty f_)] [] a w := (hst.pick [1,4,5,6])
   exact hK25 _ _ _ (sj h).symm (hst.pick [1,0,2,3])
 ·replace h := ite_f b33 h
  refine wp_exit ?_
  exact hJp22 _ _ _ (ho _ (sj h).symm) (hst.pick [])

/- slices.ContainsFunc[[]string,string] -/
noncomputable def fslices_ContainsFunc_string (s_ : (List Str)) (f_ : (Str → Option Bool)) : Option (Bool) := (fslices_IndexFunc_string s_ f_).bind fun t7 => (some (decide (t7 ≥ (0:Int))))
set_option maxRecDepth 100000 in
set_option maxHeartbeats 4000000 in
theorem slices_ContainsFunc_string_ok {s_ : (List Str)} {f_ : (Str → Option Bool)} {r : Bool} (h : fslices_ContainsFunc_string s_ f_ = some r) : FnOk Tryz.prog 142 [tsl rS s_,rF142.ty f_] [] (fun _ => []) (fun _ => tb r) := by
 unfold fslices_ContainsFunc_string at h
 refine FnOk.enter Tryz.func142 rfl Tryz.ntmps142 (leb rfl) (fun M0 M w0 a hpl hst => ?_)
 replace hst : St M w0 9 [(0,tsl rS s_),(1,rF142.ty f_)] [] a w0 := hst
 refine wp_seq_k (fun K1 hK1 => ?_)
 refine wp_reg mixed [] hst (fun _ => .p rfl (op_assign .k) <| .nil _ _) (by kernel_rfl) (fun n0 a w hst => ?_)
 replace hst : St M w0 9 [(0,tsl rS s_),(1,rF142.ty f_)] [] a w := (hst.pick [1,2])
 refine hK1 _ _ ?_
 try clear hK1 K1
 refine wp_seq_k (fun K2 hK2 => ?_)
 obtain ⟨t7,ht7,h⟩ := bind_some h
 refine wp_reg mixed [] hst (fun _ => .q 0 rfl <| .q 2 rfl <| .p rfl (op_callF call161 (slices_IndexFunc_string_ok ht7) (.cons (.of (.t 1 rfl)) <| .cons (.of (.t 0 rfl)) <| .nil)) <| .p rfl (op_geq (.t 0 rfl) .k) <| .p rfl (op_assign (.t 0 rfl)) <| .nil _ _) (by kernel_rfl) (fun n1 a w hst => ?_)
 replace hst : St M w0 9 [(4,tb (decide (t7 ≥ (0:Int))))] [] a w := (hst.pick [4])
 refine hK2 _ _ ?_
 try clear hK2 K2
 refine wp_ret ?_
 obtain rfl := sj h
 exact ret_st undef [] hpl hst rfl (.tmp (.t 0 rfl) .nil) rfl rfl rfl

/- diorama/schema.all[string] -/
noncomputable def fschema_all_string (l_ : (List Str)) (right_ : (Str → Option Bool)) : Option (Bool) := (fslices_ContainsFunc_string l_ (fun x0 => fschema_all_stringq1 x0 right_)).bind fun t7 => (some (!t7))
set_option maxRecDepth 100000 in
set_option maxHeartbeats 4000000 in
theorem schema_all_string_ok {l_ : (List Str)} {right_ : (Str → Option Bool)} {r : Bool} (h : fschema_all_string l_ right_ = some r) : FnOk Tryz.prog 110 [tsl rS l_,rF142.ty right_] [] (fun _ => []) (fun _ => tb r) := by
 unfold fschema_all_string at h
 refine FnOk.enter Tryz.func110 rfl Tryz.ntmps110 (leb rfl) (fun M0 M w0 a hpl hst => ?_)
 replace hst : St M w0 9 [(0,tsl rS l_),(1,rF142.ty right_)] [] a w0 := hst
 refine wp_seq_k (fun K1 hK1 => ?_)
 refine wp_reg mixed [] hst (fun _ => .p rfl (op_boxR (R := rF142) (u := right_) (.t 1 rfl)) <| .p rfl (op_assign .k) <| .nil _ _) (by kernel_rfl) (fun n0 a w hst => ?_)
 replace hst : St M w0 9 [(3,tptr (rF142.cs right_)),(0,tsl rS l_)] [] a w := (hst.pick [0,2])
 refine hK1 _ _ ?_
 try clear hK1 K1
 refine wp_seq_k (fun K2 hK2 => ?_)
 obtain ⟨t7,ht7,h⟩ := bind_some h
 refine wp_reg mixed [] hst (fun _ => .q 1 rfl <| .p rfl (op_clo (.cons (.t 1 rfl) <| .nil)) <| .p rfl (op_callF call142 (slices_ContainsFunc_string_ok ht7) (.cons (.of (.t 1 rfl)) <| .cons (.of (Fct.weak (.t 0 rfl) (tfn_of call143 (fun _ _ hq => schema_all_stringq1_ok hq)))) <| .nil)) <| .p rfl (op_not (.t 0 rfl)) <| .p rfl (op_assign (.t 0 rfl)) <| .nil _ _) (by kernel_rfl) (fun n1 a w hst => ?_)
 replace hst : St M w0 9 [(4,tb (!t7))] [] a w := (hst.pick [4])
 refine hK2 _ _ ?_
 try clear hK2 K2
 refine wp_ret ?_
 obtain rfl := sj h
 exact ret_st undef [] hpl hst rfl (.tmp (.t 0 rfl) .nil) rfl rfl rfl

end Go.Proofs.YthdfmpocknmleaaGreatDoor
