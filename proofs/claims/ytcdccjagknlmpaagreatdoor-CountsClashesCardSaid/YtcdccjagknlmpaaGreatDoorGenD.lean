/- Go functions as Lean functions, and the proofs that they compute them, written by a program. No condition. -/
import Derived.Test.YtcdccjagknlmpaaGreatDoorGenC
namespace Go.Proofs.YtcdccjagknlmpaaGreatDoor
open Go.Sim

/- diorama/schema.field -/
noncomputable def fschema_field (f_ : Sapi_Field) : Option (Str) := (idx wordsL (f_).Kind).bind fun t9 => (if ((f_).Kind == (0:Int)) = true then (fschema_line t9 [(AnyV.str (f_).Name),(AnyV.int (f_).Lo)]).bind fun t23 => (some t23) else (if ((f_).Kind == (2:Int)) = true then (fschema_line t9 [(AnyV.str (f_).Name),(AnyV.int (f_).Lo),(AnyV.int (f_).Hi)]).bind fun t37 => (some t37) else (if ((f_).Kind == (3:Int)) = true then (tailrec (fun (s14 : Int × List AnyV) => ((if (decide (s14.1 < ((f_).Words.length : Int))) = true then (idx (f_).Words s14.1).bind fun t54 => (idx (f_).Weights s14.1).bind fun t62 => (rm (s14.2.length + [(AnyV.str t54),(AnyV.int t62)].length)).bind fun _ => (some (.inl ((IntKind.i64.wrap (s14.1 + (1:Int))),(s14.2 ++ [(AnyV.str t54),(AnyV.int t62)])))) else (some (.inr s14.2))) : Option ((Int × List AnyV) ⊕ ((List AnyV))))) ((0:Int),[(AnyV.str (f_).Name),(AnyV.int ((f_).Words.length : Int))])).bind fun (p27 : (List AnyV)) => (fschema_line t9 p27).bind fun t70 => (some t70) else (if ((f_).Kind == (6:Int)) = true then (fschema_line t9 [(AnyV.str (f_).Name),(AnyV.str (f_).Of)]).bind fun t81 => (some t81) else (if ((f_).Kind == (7:Int)) = true then (fschema_line t9 [(AnyV.str (f_).Name),(AnyV.str (f_).Up),(AnyV.str (f_).Of),(AnyV.int (f_).Lo),(AnyV.int (f_).Hi)]).bind fun t101 => (some t101) else (if ((f_).Kind == (8:Int)) = true then (fschema_line t9 [(AnyV.str (f_).Name),(AnyV.str (f_).Up),(AnyV.str (f_).Of)]).bind fun t115 => (some t115) else (fschema_named (f_).Of).bind fun t122 => (fschema_line t9 [(AnyV.str (f_).Name),(AnyV.str t122),(AnyV.int (f_).Lo),(AnyV.int (f_).Hi)]).bind fun t131 => (some t131)))))))
set_option maxRecDepth 100000 in
set_option maxHeartbeats 4000000 in
theorem schema_field_ok {f_ : Sapi_Field} {r : Str} (h : fschema_field f_ = some r) : FnOk Tryz.prog 136 [rSapi_Field.ty f_] [glo] (fun _ => []) (fun _ => tv (.string (sB r))) := by
 unfold fschema_field at h
 refine FnOk.enter Tryz.func136 rfl Tryz.ntmps136 (leb rfl) (fun M0 M w0 a hpl hst => ?_)
 replace hst : St M w0 132 [(0,rSapi_Field.ty f_)] [glo] a w0 := hst
 refine sr mixed [] hst (fun _ => .o (op_boxR (R := rSapi_Field) (u := f_) z0) <| .o (op_assign .k) <| .n) fun n0 a w hst => ?_
 replace hst := hst.to [0] [_] [_] rfl rfl
 obtain ⟨t9,ht9,h⟩ := bind_some h
 refine sr mixed [] hst (fun _ => .o (op_field fld61_3 z0) <| .o (op_loadT (R := rI) (u := (f_).Kind) tok3 z0 rfl) <| .u [0] rfl rfl (op_idxAG Tryz.underlying210 tok9 glo_has3 rfl z0 rfl ht9) <| .o (op_load tok9 z0) <| .o (op_assign z0) <| .n) fun n1 a w hst => ?_
 replace hst := hst.to [4,5] [_,_] [_] rfl rfl
 refine wp_seq_k (fun K3 hK3 => ?_)
 refine sr mixed [] hst (fun _ => .o (op_field fld61_3 z1) <| .o (op_loadT (R := rI) (u := (f_).Kind) tok3 z0 rfl) <| .n) fun n2 a w hst => ?_
 replace hst := hst.to [1,2,3] [_,_,_] [_] rfl rfl
 refine wp_block ?_
 refine sr mixed [] hst (fun _ => .o (op_eql z0 .k) <| .o (op_assign z0) <| .n) fun n3 a w hst => ?_
 replace hst := hst.to [1,2,3,4] [_,_,_,_] [_] rfl rfl
 refine wt hst (fun b48 => ?_) (fun b48 => ?_)
 ·replace h := ite_t b48 h
  obtain ⟨t23,ht23,h⟩ := bind_some h
  refine sr mixed [] hst (fun _ => .q 2 rfl <| .o (op_field fld61_0 z4) <| .o (op_loadT (R := rS) (u := (f_).Name) tok9 z0 rfl) <| .o (op_mkS ud9 z0) <| .o (op_field fld61_4 z7) <| .o (op_loadT (R := rI) (u := (f_).Lo) tok3 z0 rfl) <| .o (op_mkI ud3 z0) <| .o (op_buildSl (R := (rAny 3 9)) (us := [(AnyV.str (f_).Name),(AnyV.int (f_).Lo)]) ud194 tok20 (.cons z3 <| .cons z0 <| .nil _) rfl (leb rfl)) <| .u [0] rfl rfl ((op_callF call135 (schema_line_ok ht23) (.cons (.of z7) <| .cons (.of z0) <| .nil)).glo) <| .o (op_assign z0) <| .n) fun n4 a w hst => ?_
  replace hst := hst.to [9] [_] [_] rfl rfl
  refine wp_ret ?_
  obtain rfl := sj h
  exact ret_st undef [] hpl hst rfl (.tmp z0 .nil) rfl rfl rfl
 ·replace h := ite_f b48 h
  refine sr mixed [] hst (fun _ => .o (op_eql z1 .k) <| .o (op_assign z0) <| .n) fun n5 a w hst => ?_
  replace hst := hst.to [1,3,4,5] [_,_,_,_] [_] rfl rfl
  refine wt hst (fun b47 => ?_) (fun b47 => ?_)
  ·replace h := ite_t b47 h
   obtain ⟨t37,ht37,h⟩ := bind_some h
   refine sr mixed [] hst (fun _ => .q 2 rfl <| .o (op_field fld61_0 z4) <| .o (op_loadT (R := rS) (u := (f_).Name) tok9 z0 rfl) <| .o (op_mkS ud9 z0) <| .o (op_field fld61_4 z7) <| .o (op_loadT (R := rI) (u := (f_).Lo) tok3 z0 rfl) <| .o (op_mkI ud3 z0) <| .o (op_field fld61_5 z10) <| .o (op_loadT (R := rI) (u := (f_).Hi) tok3 z0 rfl) <| .o (op_mkI ud3 z0) <| .o (op_buildSl (R := (rAny 3 9)) (us := [(AnyV.str (f_).Name),(AnyV.int (f_).Lo),(AnyV.int (f_).Hi)]) ud194 tok20 (.cons z6 <| .cons z3 <| .cons z0 <| .nil _) rfl (leb rfl)) <| .u [0] rfl rfl ((op_callF call135 (schema_line_ok ht37) (.cons (.of z10) <| .cons (.of z0) <| .nil)).glo) <| .o (op_assign z0) <| .n) fun n6 a w hst => ?_
   replace hst := hst.to [12] [_] [_] rfl rfl
   refine wp_ret ?_
   obtain rfl := sj h
   exact ret_st undef [] hpl hst rfl (.tmp z0 .nil) rfl rfl rfl
  ·replace h := ite_f b47 h
   refine sr mixed [] hst (fun _ => .o (op_eql z1 .k) <| .o (op_assign z0) <| .n) fun n7 a w hst => ?_
   replace hst := hst.to [1,3,4,5] [_,_,_,_] [_] rfl rfl
   refine wt hst (fun b46 => ?_) (fun b46 => ?_)
   ·replace h := ite_t b46 h
    refine sr mixed [v1 7 (fun v0 => own (rAny 3 9) 20 [(AnyV.str (f_).Name),(AnyV.int ((f_).Words.length : Int))] v0)] hst (fun _ => .o (op_field fld61_0 z3) <| .o (op_loadT (R := rS) (u := (f_).Name) tok9 z0 rfl) <| .o (op_mkS ud9 z0) <| .o (op_field fld61_6 z6) <| .o (op_loadT (R := (rSl rS)) (u := (f_).Words) tok32 z0 rfl) <| .o (op_len ud32 z0) <| .o (op_mkI ud3 z0) <| .m [] [1] rfl rfl rfl (op_buildSlO (R := (rAny 3 9)) (us := [(AnyV.str (f_).Name),(AnyV.int ((f_).Words.length : Int))]) ud194 tok20 (.cons z4 <| .cons z0 <| .nil _) rfl (leb rfl) (leb rfl)) <| .ud (f := fun v => tv v) 7 rfl [] rfl rfl (op_assign z0) <| .n) fun n8 a w hst => ?_
    replace hst := hst.to [7,8,11,12] [_,_,_,_] [_,_] rfl rfl
    refine wp_seq_k (fun K12 hK12 => ?_)
    refine sr mixed [] hst (fun _ => .o (op_field fld61_6 z3) <| .o (op_loadT (R := (rSl rS)) (u := (f_).Words) tok32 z0 rfl) <| .o (op_len ud32 z0) <| .o (op_move .k) <| .n) fun n9 a w hst => ?_
    replace hst := hst.to [1,2,3,4,5,6,7] [_,_,_,_,_,_,_] [_,_] rfl rfl
    obtain ⟨e15,he15,h⟩ := bind_some h
    have hJp27 : ∀ (p27 : List AnyV) (v28 : Value) a w,p27 = e15 → St M w0 132 [(4,tv v28),(3,tv (.string (sB t9)))] [glo,own (rAny 3 9) 20 p27 v28] a w → K12 a w := by
     intro p27 v28 a w he hst
     subst he
     refine hK12 _ _ ?_
     try clear hK12 K12
     obtain ⟨t70,ht70,h⟩ := bind_some h
     refine sr mixed [] hst (fun _ => .q 1 rfl <| .q 1 rfl <| .u [0,1] rfl rfl ((op_callFU [own (rAny 3 9) 20 p27 v28] call135 (schema_line_ok ht70) (.cons (.of z1) <| .cons (.own z0 (.head _)) <| .nil) (fun _ => flat_tv) (fun _ => flatN0 (x := undef))).glo) <| .o (op_assign z0) <| .n) fun n14 a w hst => ?_
     replace hst := hst.to [1,3,4] [_,_,_] [_,_] rfl rfl
     refine wp_ret ?_
     obtain rfl := sj h
     exact ret_st undef [] hpl hst rfl (.tmp z1 .nil) rfl rfl rfl
    refine wp_block ?_
    refine wp_loopK _ (fun (s14 : Int × List AnyV) a w => ∃ v21 : Value,St M w0 132 [(49,tsl rS (f_).Words),(50,ti ((f_).Words.length : Int)),(51,ti s14.1),(4,tv v21),(3,tv (.string (sB t9))),(1,tptr (rSapi_Field.cs f_))] [glo,own (rAny 3 9) 20 s14.2 v21] a w) _ _ he15 ⟨(n8 7),hst.pick [0,1,2,4,5,6]⟩ ?_
    clear h
    intro s14 o a w K30 hI h ho hK30
    obtain ⟨v21,hst⟩ := hI
    refine sr mixed [] hst (fun _ => .o (op_lss z2 z1) <| .n) fun n10 a w hst => ?_
    replace hst := hst.to [0,1,2,3,4,5,6] [_,_,_,_,_,_,_] [_,_] rfl rfl
    refine wp_seq_k (fun K32 hK32 => ?_)
    refine wt hst (fun b35 => ?_) (fun b35 => ?_)
    ·replace h := ite_t b35 h
     refine wp_skip ?_
     refine hK32 _ _ ?_
     try clear hK32 K32
     refine wp_seq_k (fun K33 hK33 => ?_)
     refine wp_block ?_
     obtain ⟨t54,ht54,h⟩ := bind_some h
     refine sr mixed [] hst (fun _ => .q 3 rfl <| .o (op_index ud32 tok9 z2 z4 ht54) <| .o (op_load tok9 z0) <| .o (op_assign z2) <| .o (op_assign z1) <| .n) fun n11 a w hst => ?_
     replace hst := hst.to [3,4,6,7,8,9,10,11] [_,_,_,_,_,_,_,_] [_,_] rfl rfl
     obtain ⟨t62,ht62,h⟩ := bind_some h
     obtain ⟨u66,hu66,h⟩ := bind_some h
     refine wr mixed [v1 10 (fun v0 => own (rAny 3 9) 20 (s14.2 ++ [(AnyV.str t54),(AnyV.int t62)]) v0)] hst (fun _ => .q 5 rfl <| .q 2 rfl <| .o (op_mkS ud9 z0) <| .o (op_field fld61_7 z10) <| .o (op_loadT (R := (rSl rI)) (u := (f_).Weights) tok22 z0 rfl) <| .q 5 rfl <| .o (op_index ud22 tok3 z1 z0 ht62) <| .o (op_load tok3 z0) <| .o (op_mkI ud3 z0) <| .o (op_buildSl (R := (rAny 3 9)) (us := [(AnyV.str t54),(AnyV.int t62)]) ud194 tok20 (.cons z6 <| .cons z0 <| .nil _) rfl (leb rfl)) <| .e [] [1] [2] rfl rfl rfl rfl (op_append (R := (rAny 3 9)) ud194 tok20 (leb rfl) z9 z0 hu66) <| .ud (f := fun v => tv v) 10 rfl [] rfl rfl (op_assign z0) <| .n) fun n12 a w hst => ?_
     replace hst := hst.to [10,11,14,15,16,17,18] [_,_,_,_,_,_,_] [_,_] rfl rfl
     refine hK33 _ _ ?_
     try clear hK33 K33
     refine wr mixed [] hst (fun _ => .o (op_add z4 .k) <| .q 0 rfl <| .n) fun n13 a w hst => ?_
     replace hst := hst.to [1,2,3,4,5,6,7] [_,_,_,_,_,_,_] [_,_] rfl rfl
     exact hK30 _ _ _ (sj h).symm ⟨(n12 10),hst.pick [3,4,0,2,5,6]⟩
    ·replace h := ite_f b35 h
     refine wp_exit ?_
     exact hJp27 _ v21 _ _ (ho _ (sj h).symm) (hst.pick [4,5])
   ·replace h := ite_f b46 h
    refine sr mixed [] hst (fun _ => .o (op_eql z1 .k) <| .o (op_assign z0) <| .n) fun n15 a w hst => ?_
    replace hst := hst.to [1,3,4,5] [_,_,_,_] [_] rfl rfl
    refine wt hst (fun b45 => ?_) (fun b45 => ?_)
    ·replace h := ite_t b45 h
     obtain ⟨t81,ht81,h⟩ := bind_some h
     refine sr mixed [] hst (fun _ => .q 2 rfl <| .o (op_field fld61_0 z4) <| .o (op_loadT (R := rS) (u := (f_).Name) tok9 z0 rfl) <| .o (op_mkS ud9 z0) <| .o (op_field fld61_1 z7) <| .o (op_loadT (R := rS) (u := (f_).Of) tok9 z0 rfl) <| .o (op_mkS ud9 z0) <| .o (op_buildSl (R := (rAny 3 9)) (us := [(AnyV.str (f_).Name),(AnyV.str (f_).Of)]) ud194 tok20 (.cons z3 <| .cons z0 <| .nil _) rfl (leb rfl)) <| .u [0] rfl rfl ((op_callF call135 (schema_line_ok ht81) (.cons (.of z7) <| .cons (.of z0) <| .nil)).glo) <| .o (op_assign z0) <| .n) fun n16 a w hst => ?_
     replace hst := hst.to [9] [_] [_] rfl rfl
     refine wp_ret ?_
     obtain rfl := sj h
     exact ret_st undef [] hpl hst rfl (.tmp z0 .nil) rfl rfl rfl
    ·replace h := ite_f b45 h
     refine sr mixed [] hst (fun _ => .o (op_eql z1 .k) <| .o (op_assign z0) <| .n) fun n17 a w hst => ?_
     replace hst := hst.to [1,3,4,5] [_,_,_,_] [_] rfl rfl
     refine wt hst (fun b44 => ?_) (fun b44 => ?_)
     ·replace h := ite_t b44 h
      obtain ⟨t101,ht101,h⟩ := bind_some h
      refine sr mixed [] hst (fun _ => .q 2 rfl <| .o (op_field fld61_0 z4) <| .o (op_loadT (R := rS) (u := (f_).Name) tok9 z0 rfl) <| .o (op_mkS ud9 z0) <| .o (op_field fld61_2 z7) <| .o (op_loadT (R := rS) (u := (f_).Up) tok9 z0 rfl) <| .o (op_mkS ud9 z0) <| .o (op_field fld61_1 z10) <| .o (op_loadT (R := rS) (u := (f_).Of) tok9 z0 rfl) <| .o (op_mkS ud9 z0) <| .o (op_field fld61_4 z13) <| .o (op_loadT (R := rI) (u := (f_).Lo) tok3 z0 rfl) <| .o (op_mkI ud3 z0) <| .o (op_field fld61_5 z16) <| .o (op_loadT (R := rI) (u := (f_).Hi) tok3 z0 rfl) <| .o (op_mkI ud3 z0) <| .o (op_buildSl (R := (rAny 3 9)) (us := [(AnyV.str (f_).Name),(AnyV.str (f_).Up),(AnyV.str (f_).Of),(AnyV.int (f_).Lo),(AnyV.int (f_).Hi)]) ud194 tok20 (.cons z12 <| .cons z9 <| .cons z6 <| .cons z3 <| .cons z0 <| .nil _) rfl (leb rfl)) <| .u [0] rfl rfl ((op_callF call135 (schema_line_ok ht101) (.cons (.of z16) <| .cons (.of z0) <| .nil)).glo) <| .o (op_assign z0) <| .n) fun n18 a w hst => ?_
      replace hst := hst.to [18] [_] [_] rfl rfl
      refine wp_ret ?_
      obtain rfl := sj h
      exact ret_st undef [] hpl hst rfl (.tmp z0 .nil) rfl rfl rfl
     ·replace h := ite_f b44 h
      refine sr mixed [] hst (fun _ => .o (op_eql z1 .k) <| .o (op_assign z0) <| .n) fun n19 a w hst => ?_
      replace hst := hst.to [1,4,5] [_,_,_] [_] rfl rfl
      refine wt hst (fun b43 => ?_) (fun b43 => ?_)
      ·replace h := ite_t b43 h
       obtain ⟨t115,ht115,h⟩ := bind_some h
       refine sr mixed [] hst (fun _ => .q 1 rfl <| .o (op_field fld61_0 z3) <| .o (op_loadT (R := rS) (u := (f_).Name) tok9 z0 rfl) <| .o (op_mkS ud9 z0) <| .o (op_field fld61_2 z6) <| .o (op_loadT (R := rS) (u := (f_).Up) tok9 z0 rfl) <| .o (op_mkS ud9 z0) <| .o (op_field fld61_1 z9) <| .o (op_loadT (R := rS) (u := (f_).Of) tok9 z0 rfl) <| .o (op_mkS ud9 z0) <| .o (op_buildSl (R := (rAny 3 9)) (us := [(AnyV.str (f_).Name),(AnyV.str (f_).Up),(AnyV.str (f_).Of)]) ud194 tok20 (.cons z6 <| .cons z3 <| .cons z0 <| .nil _) rfl (leb rfl)) <| .u [0] rfl rfl ((op_callF call135 (schema_line_ok ht115) (.cons (.of z10) <| .cons (.of z0) <| .nil)).glo) <| .o (op_assign z0) <| .n) fun n20 a w hst => ?_
       replace hst := hst.to [12] [_] [_] rfl rfl
       refine wp_ret ?_
       obtain rfl := sj h
       exact ret_st undef [] hpl hst rfl (.tmp z0 .nil) rfl rfl rfl
      ·replace h := ite_f b43 h
       refine wp_skip ?_
       refine hK3 _ _ ?_
       try clear hK3 K3
       obtain ⟨t122,ht122,h⟩ := bind_some h
       obtain ⟨t131,ht131,h⟩ := bind_some h
       refine sr mixed [] hst (fun _ => .q 1 rfl <| .o (op_field fld61_0 z3) <| .o (op_loadT (R := rS) (u := (f_).Name) tok9 z0 rfl) <| .o (op_mkS ud9 z0) <| .o (op_field fld61_1 z6) <| .o (op_loadT (R := rS) (u := (f_).Of) tok9 z0 rfl) <| .o (op_callF call137 (schema_named_ok ht122) (.cons (.of z0) <| .nil)) <| .o (op_mkS ud9 z0) <| .o (op_field fld61_4 z10) <| .o (op_loadT (R := rI) (u := (f_).Lo) tok3 z0 rfl) <| .o (op_mkI ud3 z0) <| .o (op_field fld61_5 z13) <| .o (op_loadT (R := rI) (u := (f_).Hi) tok3 z0 rfl) <| .o (op_mkI ud3 z0) <| .o (op_buildSl (R := (rAny 3 9)) (us := [(AnyV.str (f_).Name),(AnyV.str t122),(AnyV.int (f_).Lo),(AnyV.int (f_).Hi)]) ud194 tok20 (.cons z10 <| .cons z6 <| .cons z3 <| .cons z0 <| .nil _) rfl (leb rfl)) <| .u [0] rfl rfl ((op_callF call135 (schema_line_ok ht131) (.cons (.of z14) <| .cons (.of z0) <| .nil)).glo) <| .o (op_assign z0) <| .n) fun n21 a w hst => ?_
       replace hst := hst.to [16] [_] [_] rfl rfl
       refine wp_ret ?_
       obtain rfl := sj h
       exact ret_st undef [] hpl hst rfl (.tmp z0 .nil) rfl rfl rfl

/- diorama/schema.source -/
noncomputable def fschema_source (x_ : Sapi_Schema) : Option (Str) := (fschema_line ([115,99,104,101,109,97] : Str) [(AnyV.int (x_).Version)]).bind fun t21 => (fBWriteString ([] : Str) t21).bind fun t22 => (tailrec (fun (s7 : Int × Str) => ((if (decide (s7.1 < ((x_).Kinds.length : Int))) = true then (idx (x_).Kinds s7.1).bind fun t28 => (fschema_line ([107,105,110,100] : Str) [(AnyV.str (t28).Name),(AnyV.int (t28).Lo),(AnyV.int (t28).Hi)]).bind fun t40 => (fBWriteString s7.2 t40).bind fun t41 => (tailrec (fun (s290 : Int × Str) => ((if (decide (s290.1 < ((t28).Fields.length : Int))) = true then (idx (t28).Fields s290.1).bind fun t47 => (fschema_field t47).bind fun t50 => (fBWriteString s290.2 t50).bind fun t51 => (some (.inl ((IntKind.i64.wrap (s290.1 + (1:Int))),t51))) else (some (.inr s290.2))) : Option ((Int × Str) ⊕ ((Str))))) ((0:Int),t41)).bind fun (p305 : (Str)) => (some (.inl ((IntKind.i64.wrap (s7.1 + (1:Int))),p305))) else (some (.inr s7.2))) : Option ((Int × Str) ⊕ ((Str))))) ((0:Int),t22)).bind fun (p74 : (Str)) => (tailrec (fun (s78 : Int × Str) => ((if (decide (s78.1 < ((x_).Lives.length : Int))) = true then (idx (x_).Lives s78.1).bind fun t59 => (tailrec (fun (s234 : Int × List AnyV) => ((if (decide (s234.1 < ((t59).States.length : Int))) = true then (idx (t59).States s234.1).bind fun t74 => (rm (s234.2.length + [(AnyV.str t74)].length)).bind fun _ => (some (.inl ((IntKind.i64.wrap (s234.1 + (1:Int))),(s234.2 ++ [(AnyV.str t74)])))) else (some (.inr s234.2))) : Option ((Int × List AnyV) ⊕ ((List AnyV))))) ((0:Int),[(AnyV.str (t59).Name),(AnyV.int ((t59).States.length : Int))])).bind fun (p247 : (List AnyV)) => (fschema_line ([108,105,102,101] : Str) p247).bind fun t83 => (fBWriteString s78.2 t83).bind fun t84 => (tailrec (fun (s251 : Int × Str) => ((if (decide (s251.1 < ((t59).Moves.length : Int))) = true then (idx (t59).Moves s251.1).bind fun t90 => (fschema_line ([109,111,118,101] : Str) [(AnyV.int (t90).a0),(AnyV.int (t90).a1)]).bind fun t99 => (fBWriteString s251.2 t99).bind fun t100 => (some (.inl ((IntKind.i64.wrap (s251.1 + (1:Int))),t100))) else (some (.inr s251.2))) : Option ((Int × Str) ⊕ ((Str))))) ((0:Int),t84)).bind fun (p266 : (Str)) => (some (.inl ((IntKind.i64.wrap (s78.1 + (1:Int))),p266))) else (some (.inr s78.2))) : Option ((Int × Str) ⊕ ((Str))))) ((0:Int),p74)).bind fun (p195 : (Str)) => (tailrec (fun (s199 : Int × Str) => ((if (decide (s199.1 < ((x_).Rules.length : Int))) = true then (idx (x_).Rules s199.1).bind fun t108 => (fschema_named (t108).A).bind fun t118 => (fschema_named (t108).B).bind fun t122 => (fschema_line ([114,117,108,101] : Str) [(AnyV.str (t108).Name),(AnyV.str (t108).Kind),(AnyV.str t118),(AnyV.str t122),(AnyV.int (t108).N)]).bind fun t128 => (fBWriteString s199.2 t128).bind fun t129 => (some (.inl ((IntKind.i64.wrap (s199.1 + (1:Int))),t129))) else (some (.inr s199.2))) : Option ((Int × Str) ⊕ ((Str))))) ((0:Int),p195)).bind fun (p214 : (Str)) => (fBString p214).bind fun t131 => (some t131)
set_option maxRecDepth 100000 in
set_option maxHeartbeats 4000000 in
theorem schema_source_ok {x_ : Sapi_Schema} {r : Str} (h : fschema_source x_ = some r) : FnOk Tryz.prog 104 [rSapi_Schema.ty x_] [glo] (fun _ => []) (fun _ => tv (.string (sB r))) := by
 unfold fschema_source at h
 refine FnOk.enter Tryz.func104 rfl Tryz.ntmps104 (leb rfl) (fun M0 M w0 a hpl hst => ?_)
 replace hst : St M w0 132 [(0,rSapi_Schema.ty x_)] [glo] a w0 := hst
 refine sr mixed [] hst (fun _ => .o (op_boxR (R := rSapi_Schema) (u := x_) z0) <| .o (op_assign .k) <| .n) fun n0 a w hst => ?_
 replace hst := hst.to [0] [_] [_] rfl rfl
 refine sr mixed [v1 0 (fun v0 => bld ([] : Str) v0 nilV)] hst (fun _ => .m [] [1] rfl rfl rfl (op_allocB bInfo) <| .n) fun n1 a w hst => ?_
 replace hst := hst.to [0,1] [_,_] [_,_] rfl rfl
 obtain ⟨t21,ht21,h⟩ := bind_some h
 obtain ⟨t22,ht22,h⟩ := bind_some h
 refine sr mixed [v1 5 (fun v0 => bld t22 (n1 0) v0)] hst (fun _ => .o (op_field fld27_0 z1) <| .o (op_loadT (R := rI) (u := (x_).Version) tok3 z0 rfl) <| .o (op_mkI ud3 z0) <| .o (op_buildSl (R := (rAny 3 9)) (us := [(AnyV.int (x_).Version)]) ud194 tok20 (.cons z0 <| .nil _) rfl (leb rfl)) <| .u [0] rfl rfl ((op_callF call135 (schema_line_ok ht21) (.cons (.of .k) <| .cons (.of z0) <| .nil)).glo) <| .e [] [1] [2] rfl rfl rfl rfl (op_callF call134 (BWriteString_ok ht22) (.cons (.of z5) <| .cons (.of z0) <| .nil)) <| .n) fun n2 a w hst => ?_
 replace hst := hst.to [6,7] [_,_] [_,_] rfl rfl
 refine wp_seq_k (fun K5 hK5 => ?_)
 refine sr mixed [] hst (fun _ => .o (op_field fld27_1 z1) <| .o (op_loadT (R := (rSl rSapi_Kind)) (u := (x_).Kinds) tok23 z0 rfl) <| .o (op_len ud23 z0) <| .o (op_move .k) <| .n) fun n3 a w hst => ?_
 replace hst := hst.to [1,2,3,4,5] [_,_,_,_,_] [_,_] rfl rfl
 obtain ⟨e8,he8,h⟩ := bind_some h
 have hJp74 : ∀ (p74 : Str) (v75 : Value) a w,p74 = e8 → St M w0 132 [(3,tv (n1 0)),(1,tptr (rSapi_Schema.cs x_))] [glo,bld p74 (n1 0) v75] a w → K5 a w := by
  intro p74 v75 a w he hst
  subst he
  refine hK5 _ _ ?_
  try clear hK5 K5
  refine wp_seq_k (fun K76 hK76 => ?_)
  refine sr mixed [] hst (fun _ => .o (op_field fld27_2 z1) <| .o (op_loadT (R := (rSl rSapi_Life)) (u := (x_).Lives) tok24 z0 rfl) <| .o (op_len ud24 z0) <| .o (op_move .k) <| .n) fun n13 a w hst => ?_
  replace hst := hst.to [1,2,3,4,5] [_,_,_,_,_] [_,_] rfl rfl
  obtain ⟨e79,he79,h⟩ := bind_some h
  have hJp195 : ∀ (p195 : Str) (v196 : Value) a w,p195 = e79 → St M w0 132 [(3,tv (n1 0)),(1,tptr (rSapi_Schema.cs x_))] [glo,bld p195 (n1 0) v196] a w → K76 a w := by
   intro p195 v196 a w he hst
   subst he
   refine hK76 _ _ ?_
   try clear hK76 K76
   refine wp_seq_k (fun K197 hK197 => ?_)
   refine sr mixed [] hst (fun _ => .o (op_field fld27_3 z1) <| .o (op_loadT (R := (rSl rSapi_Rule)) (u := (x_).Rules) tok25 z0 rfl) <| .o (op_len ud25 z0) <| .o (op_move .k) <| .n) fun n29 a w hst => ?_
   replace hst := hst.to [1,2,3,4] [_,_,_,_] [_,_] rfl rfl
   obtain ⟨e200,he200,h⟩ := bind_some h
   have hJp214 : ∀ (p214 : Str) (v215 : Value) a w,p214 = e200 → St M w0 132 [(3,tv (n1 0))] [glo,bld p214 (n1 0) v215] a w → K197 a w := by
    intro p214 v215 a w he hst
    subst he
    refine hK197 _ _ ?_
    try clear hK197 K197
    obtain ⟨t131,ht131,h⟩ := bind_some h
    refine sr mixed [] hst (fun _ => .e [] [1] [] rfl rfl rfl rfl (op_callF call138 (BString_ok ht131) (.cons (.of z0) <| .nil)) <| .o (op_assign z0) <| .n) fun n34 a w hst => ?_
    replace hst := hst.to [1] [_] [_] rfl rfl
    refine wp_ret ?_
    obtain rfl := sj h
    exact ret_st undef [] hpl hst rfl (.tmp z0 .nil) rfl rfl rfl
   refine wp_block ?_
   refine wp_loopK _ (fun (s199 : Int × Str) a w => ∃ v207 : Value,St M w0 132 [(104,tsl rSapi_Rule (x_).Rules),(105,ti ((x_).Rules.length : Int)),(106,ti s199.1),(3,tv (n1 0))] [glo,bld s199.2 (n1 0) v207] a w) _ _ he200 ⟨v196,hst.pick [0,1,2,3]⟩ ?_
   clear h
   intro s199 o a w K217 hI h ho hK217
   obtain ⟨v207,hst⟩ := hI
   refine sr mixed [] hst (fun _ => .o (op_lss z2 z1) <| .n) fun n30 a w hst => ?_
   replace hst := hst.to [0,1,2,3,4] [_,_,_,_,_] [_,_] rfl rfl
   refine wp_seq_k (fun K219 hK219 => ?_)
   refine wt hst (fun b223 => ?_) (fun b223 => ?_)
   ·replace h := ite_t b223 h
    refine wp_skip ?_
    refine hK219 _ _ ?_
    try clear hK219 K219
    refine wp_seq_k (fun K220 hK220 => ?_)
    refine wp_block ?_
    obtain ⟨t108,ht108,h⟩ := bind_some h
    refine sr mixed [v1 2 (fun v0 => box (rSapi_Rule.cs zz3) v0),v1 2 (fun v0 => box (rSapi_Rule.cs t108) v0)] hst (fun _ => .o (op_index ud25 tok84 z1 z3 ht108) <| .o (op_load tok84 z0) <| .m [] [2] rfl rfl rfl (op_alloc (R := rSapi_Rule) (a := zz3) tok84 zok84) <| .e [] [2] [3] rfl rfl rfl rfl (op_storeB (R := rSapi_Rule) (a := t108) tok84 z0 z1 (leb rfl)) <| .n) fun n31 a w hst => ?_
    replace hst : St _ _ _ [_,_,_,_,_] [_,_] _ _ := ((((hst.pick [2,4,5,6,7]).selA [2,0,1] rfl).shareB 0 rfl).add 0 rfl (fun _ _ _ h => h.2)).pick [0,3,4,5,6]
    obtain ⟨t118,ht118,h⟩ := bind_some h
    obtain ⟨t122,ht122,h⟩ := bind_some h
    obtain ⟨t128,ht128,h⟩ := bind_some h
    obtain ⟨t129,ht129,h⟩ := bind_some h
    refine wr mixed [v1 19 (fun v0 => bld t129 (n1 0) v0)] hst (fun _ => .o (op_field fld84_0 z0) <| .o (op_loadT (R := rS) (u := (t108).Name) tok9 z0 rfl) <| .o (op_mkS ud9 z0) <| .o (op_field fld84_1 z3) <| .o (op_loadT (R := rS) (u := (t108).Kind) tok9 z0 rfl) <| .o (op_mkS ud9 z0) <| .o (op_field fld84_2 z6) <| .o (op_loadT (R := rS) (u := (t108).A) tok9 z0 rfl) <| .o (op_callF call137 (schema_named_ok ht118) (.cons (.of z0) <| .nil)) <| .o (op_mkS ud9 z0) <| .o (op_field fld84_3 z10) <| .o (op_loadT (R := rS) (u := (t108).B) tok9 z0 rfl) <| .o (op_callF call137 (schema_named_ok ht122) (.cons (.of z0) <| .nil)) <| .o (op_mkS ud9 z0) <| .o (op_field fld84_4 z14) <| .o (op_loadT (R := rI) (u := (t108).N) tok3 z0 rfl) <| .o (op_mkI ud3 z0) <| .o (op_buildSl (R := (rAny 3 9)) (us := [(AnyV.str (t108).Name),(AnyV.str (t108).Kind),(AnyV.str t118),(AnyV.str t122),(AnyV.int (t108).N)]) ud194 tok20 (.cons z14 <| .cons z11 <| .cons z7 <| .cons z3 <| .cons z0 <| .nil _) rfl (leb rfl)) <| .u [0] rfl rfl ((op_callF call135 (schema_line_ok ht128) (.cons (.of .k) <| .cons (.of z0) <| .nil)).glo) <| .e [] [1] [2] rfl rfl rfl rfl (op_callF call134 (BWriteString_ok ht129) (.cons (.of z23) <| .cons (.of z0) <| .nil)) <| .n) fun n32 a w hst => ?_
    replace hst := hst.to [21,22,23,24] [_,_,_,_] [_,_] rfl rfl
    refine hK220 _ _ ?_
    try clear hK220 K220
    refine wr mixed [] hst (fun _ => .o (op_add z2 .k) <| .q 0 rfl <| .n) fun n33 a w hst => ?_
    replace hst := hst.to [1,2,3,4] [_,_,_,_] [_,_] rfl rfl
    exact hK217 _ _ _ (sj h).symm ⟨(n32 19),hst.pick [1,2,0,3]⟩
   ·replace h := ite_f b223 h
    refine wp_exit ?_
    exact hJp214 _ v207 _ _ (ho _ (sj h).symm) (hst.pick [4])
  refine wp_block ?_
  refine wp_loopK _ (fun (s78 : Int × Str) a w => ∃ v137 : Value,St M w0 132 [(55,tsl rSapi_Life (x_).Lives),(56,ti ((x_).Lives.length : Int)),(57,ti s78.1),(3,tv (n1 0)),(1,tptr (rSapi_Schema.cs x_))] [glo,bld s78.2 (n1 0) v137] a w) _ _ he79 ⟨v75,hst.pick [0,1,2,3,4]⟩ ?_
  clear h
  intro s78 o a w K224 hI h ho hK224
  obtain ⟨v137,hst⟩ := hI
  refine sr mixed [] hst (fun _ => .o (op_lss z2 z1) <| .n) fun n14 a w hst => ?_
  replace hst := hst.to [0,1,2,3,4,5] [_,_,_,_,_,_] [_,_] rfl rfl
  refine wp_seq_k (fun K226 hK226 => ?_)
  refine wt hst (fun b281 => ?_) (fun b281 => ?_)
  ·replace h := ite_t b281 h
   refine wp_skip ?_
   refine hK226 _ _ ?_
   try clear hK226 K226
   refine wp_seq_k (fun K227 hK227 => ?_)
   refine wp_block ?_
   obtain ⟨t59,ht59,h⟩ := bind_some h
   refine sr mixed [v1 2 (fun v0 => box (rSapi_Life.cs zz2) v0),v1 2 (fun v0 => box (rSapi_Life.cs t59) v0)] hst (fun _ => .o (op_index ud24 tok81 z1 z3 ht59) <| .o (op_load tok81 z0) <| .m [] [2] rfl rfl rfl (op_alloc (R := rSapi_Life) (a := zz2) tok81 zok81) <| .e [] [2] [3] rfl rfl rfl rfl (op_storeB (R := rSapi_Life) (a := t59) tok81 z0 z1 (leb rfl)) <| .n) fun n15 a w hst => ?_
   replace hst : St _ _ _ [_,_,_,_,_,_] [_,_] _ _ := ((((hst.pick [2,4,5,6,7,8]).selA [2,0,1] rfl).shareB 0 rfl).add 0 rfl (fun _ _ _ h => h.2)).pick [0,3,4,5,6,7]
   refine sr mixed [v1 7 (fun v0 => own (rAny 3 9) 20 [(AnyV.str (t59).Name),(AnyV.int ((t59).States.length : Int))] v0)] hst (fun _ => .o (op_field fld81_0 z0) <| .o (op_loadT (R := rS) (u := (t59).Name) tok9 z0 rfl) <| .o (op_mkS ud9 z0) <| .o (op_field fld81_1 z3) <| .o (op_loadT (R := (rSl rS)) (u := (t59).States) tok32 z0 rfl) <| .o (op_len ud32 z0) <| .o (op_mkI ud3 z0) <| .m [] [2] rfl rfl rfl (op_buildSlO (R := (rAny 3 9)) (us := [(AnyV.str (t59).Name),(AnyV.int ((t59).States.length : Int))]) ud194 tok20 (.cons z4 <| .cons z0 <| .nil _) rfl (leb rfl) (leb rfl)) <| .ud (f := fun v => tv v) 7 rfl [] rfl rfl (op_assign z0) <| .n) fun n16 a w hst => ?_
   replace hst := hst.to [7,8,9,10,11,12,13,14] [_,_,_,_,_,_,_,_] [_,_,_] rfl rfl
   refine wp_seq_k (fun K232 hK232 => ?_)
   refine sr mixed [] hst (fun _ => .o (op_field fld81_1 z2) <| .o (op_loadT (R := (rSl rS)) (u := (t59).States) tok32 z0 rfl) <| .o (op_len ud32 z0) <| .o (op_move .k) <| .n) fun n17 a w hst => ?_
   replace hst := hst.to [1,2,3,4,5,6,7,8,9,10,11] [_,_,_,_,_,_,_,_,_,_,_] [_,_,_] rfl rfl
   obtain ⟨e235,he235,h⟩ := bind_some h
   have hJp247 : ∀ (p247 : List AnyV) (v248 : Value) a w,p247 = e235 → St M w0 132 [(10,tv v248),(9,tptr (rSapi_Life.cs t59)),(55,tsl rSapi_Life (x_).Lives),(56,ti ((x_).Lives.length : Int)),(57,ti s78.1),(3,tv (n1 0)),(1,tptr (rSapi_Schema.cs x_))] [glo,bld s78.2 (n1 0) v137,own (rAny 3 9) 20 p247 v248] a w → K232 a w := by
    intro p247 v248 a w he hst
    subst he
    refine hK232 _ _ ?_
    try clear hK232 K232
    obtain ⟨t83,ht83,h⟩ := bind_some h
    obtain ⟨t84,ht84,h⟩ := bind_some h
    refine sr mixed [v1 2 (fun v0 => bld t84 (n1 0) v0)] hst (fun _ => .q 0 rfl <| .u [0,2] rfl rfl ((op_callFU [own (rAny 3 9) 20 p247 v248] call135 (schema_line_ok ht83) (.cons (.of .k) <| .cons (.own z0 (.head _)) <| .nil) (fun _ => flat_tv) (fun _ => flatN0 (x := undef))).glo) <| .e [] [1] [3] rfl rfl rfl rfl (op_callF call134 (BWriteString_ok ht84) (.cons (.of z7) <| .cons (.of z0) <| .nil)) <| .n) fun n22 a w hst => ?_
    replace hst := hst.to [0,3,4,5,6,7,8,9] [_,_,_,_,_,_,_,_] [_,_,_] rfl rfl
    refine sr mixed [] hst (fun _ => .o (op_field fld81_2 z2) <| .o (op_loadT (R := (rSl rA2_Int)) (u := (t59).Moves) tok79 z0 rfl) <| .o (op_len ud79 z0) <| .o (op_move .k) <| .n) fun n23 a w hst => ?_
    replace hst := hst.to [1,2,3,4,5,7,8,9,10,11] [_,_,_,_,_,_,_,_,_,_] [_,_,_] rfl rfl
    obtain ⟨e252,he252,h⟩ := bind_some h
    have hJp266 : ∀ (p266 : Str) (v267 : Value) a w,p266 = e252 → St M w0 132 [(55,tsl rSapi_Life (x_).Lives),(56,ti ((x_).Lives.length : Int)),(57,ti s78.1),(3,tv (n1 0)),(1,tptr (rSapi_Schema.cs x_))] [glo,bld p266 (n1 0) v267] a w → K227 a w := by
     intro p266 v267 a w he hst
     subst he
     refine hK227 _ _ ?_
     try clear hK227 K227
     refine wr mixed [] hst (fun _ => .o (op_add z2 .k) <| .q 0 rfl <| .n) fun n28 a w hst => ?_
     replace hst := hst.to [1,2,3,4,5] [_,_,_,_,_] [_,_] rfl rfl
     exact hK224 _ _ _ (sj h).symm ⟨v267,hst.pick [1,2,0,3,4]⟩
    refine wp_block ?_
    refine wp_loopK _ (fun (s251 : Int × Str) a w => ∃ v259 : Value,St M w0 132 [(86,tsl rA2_Int (t59).Moves),(87,ti ((t59).Moves.length : Int)),(88,ti s251.1),(55,tsl rSapi_Life (x_).Lives),(56,ti ((x_).Lives.length : Int)),(57,ti s78.1),(3,tv (n1 0)),(1,tptr (rSapi_Schema.cs x_))] [glo,bld s251.2 (n1 0) v259] a w) _ _ he252 ⟨(n22 2),(hst.pick [0,1,2,5,6,7,8,9]).selA [0,2] rfl⟩ ?_
    clear h
    intro s251 o a w K268 hI h ho hK268
    obtain ⟨v259,hst⟩ := hI
    refine sr mixed [] hst (fun _ => .o (op_lss z2 z1) <| .n) fun n24 a w hst => ?_
    replace hst := hst.to [0,1,2,3,4,5,6,7,8] [_,_,_,_,_,_,_,_,_] [_,_] rfl rfl
    refine wp_seq_k (fun K270 hK270 => ?_)
    refine wt hst (fun b274 => ?_) (fun b274 => ?_)
    ·replace h := ite_t b274 h
     refine wp_skip ?_
     refine hK270 _ _ ?_
     try clear hK270 K270
     refine wp_seq_k (fun K271 hK271 => ?_)
     refine wp_block ?_
     obtain ⟨t90,ht90,h⟩ := bind_some h
     refine sr mixed [v1 2 (fun v0 => box (rA2_Int.cs (A2_Int.mk (0:Int) (0:Int))) v0),v1 2 (fun v0 => box (rA2_Int.cs t90) v0)] hst (fun _ => .o (op_index ud79 tok82 z1 z3 ht90) <| .o (op_load tok82 z0) <| .m [] [2] rfl rfl rfl (op_alloc (R := rA2_Int) (a := (A2_Int.mk (0:Int) (0:Int))) tok82 zok82) <| .e [] [2] [3] rfl rfl rfl rfl (op_storeB (R := rA2_Int) (a := t90) tok82 z0 z1 (leb rfl)) <| .n) fun n25 a w hst => ?_
     replace hst : St _ _ _ [_,_,_,_,_,_,_,_,_] [_,_] _ _ := ((((hst.pick [2,4,5,6,7,8,9,10,11]).selA [2,0,1] rfl).shareB 0 rfl).add 0 rfl (fun _ _ _ h => h.2)).pick [0,3,4,5,6,7,8,9,10]
     obtain ⟨t99,ht99,h⟩ := bind_some h
     obtain ⟨t100,ht100,h⟩ := bind_some h
     refine wr mixed [v1 8 (fun v0 => bld t100 (n1 0) v0)] hst (fun _ => .o (op_idxA 0 rfl ud82 tok3 z0 .k (by decide)) <| .o (op_loadT (R := rI) (u := (t90).a0) tok3 z0 rfl) <| .o (op_mkI ud3 z0) <| .o (op_idxA 1 rfl ud82 tok3 z3 .k (by decide)) <| .o (op_loadT (R := rI) (u := (t90).a1) tok3 z0 rfl) <| .o (op_mkI ud3 z0) <| .o (op_buildSl (R := (rAny 3 9)) (us := [(AnyV.int (t90).a0),(AnyV.int (t90).a1)]) ud194 tok20 (.cons z3 <| .cons z0 <| .nil _) rfl (leb rfl)) <| .u [0] rfl rfl ((op_callF call135 (schema_line_ok ht99) (.cons (.of .k) <| .cons (.of z0) <| .nil)).glo) <| .e [] [1] [2] rfl rfl rfl rfl (op_callF call134 (BWriteString_ok ht100) (.cons (.of z15) <| .cons (.of z0) <| .nil)) <| .n) fun n26 a w hst => ?_
     replace hst := hst.to [10,11,12,13,14,15,16,17] [_,_,_,_,_,_,_,_] [_,_] rfl rfl
     refine hK271 _ _ ?_
     try clear hK271 K271
     refine wr mixed [] hst (fun _ => .o (op_add z2 .k) <| .q 0 rfl <| .n) fun n27 a w hst => ?_
     replace hst := hst.to [1,2,3,4,5,6,7,8] [_,_,_,_,_,_,_,_] [_,_] rfl rfl
     exact hK268 _ _ _ (sj h).symm ⟨(n26 8),hst.pick [1,2,0,3,4,5,6,7]⟩
    ·replace h := ite_f b274 h
     refine wp_exit ?_
     exact hJp266 _ v259 _ _ (ho _ (sj h).symm) (hst.pick [4,5,6,7,8])
   refine wp_block ?_
   refine wp_loopK _ (fun (s234 : Int × List AnyV) a w => ∃ v241 : Value,St M w0 132 [(70,tsl rS (t59).States),(71,ti ((t59).States.length : Int)),(72,ti s234.1),(10,tv v241),(9,tptr (rSapi_Life.cs t59)),(55,tsl rSapi_Life (x_).Lives),(56,ti ((x_).Lives.length : Int)),(57,ti s78.1),(3,tv (n1 0)),(1,tptr (rSapi_Schema.cs x_))] [glo,bld s78.2 (n1 0) v137,own (rAny 3 9) 20 s234.2 v241] a w) _ _ he235 ⟨(n16 7),hst.pick [0,1,2,4,5,6,7,8,9,10]⟩ ?_
   clear h
   intro s234 o a w K275 hI h ho hK275
   obtain ⟨v241,hst⟩ := hI
   refine sr mixed [] hst (fun _ => .o (op_lss z2 z1) <| .n) fun n18 a w hst => ?_
   replace hst := hst.to [0,1,2,3,4,5,6,7,8,9,10] [_,_,_,_,_,_,_,_,_,_,_] [_,_,_] rfl rfl
   refine wp_seq_k (fun K277 hK277 => ?_)
   refine wt hst (fun b280 => ?_) (fun b280 => ?_)
   ·replace h := ite_t b280 h
    refine wp_skip ?_
    refine hK277 _ _ ?_
    try clear hK277 K277
    refine wp_seq_k (fun K278 hK278 => ?_)
    refine wp_block ?_
    obtain ⟨t74,ht74,h⟩ := bind_some h
    refine sr mixed [] hst (fun _ => .o (op_index ud32 tok9 z1 z3 ht74) <| .o (op_load tok9 z0) <| .o (op_assign z0) <| .n) fun n19 a w hst => ?_
    replace hst := hst.to [2,4,5,6,7,8,9,10,11,12,13] [_,_,_,_,_,_,_,_,_,_,_] [_,_,_] rfl rfl
    obtain ⟨u80,hu80,h⟩ := bind_some h
    refine wr mixed [v1 4 (fun v0 => own (rAny 3 9) 20 (s234.2 ++ [(AnyV.str t74)]) v0)] hst (fun _ => .q 4 rfl <| .q 1 rfl <| .o (op_mkS ud9 z0) <| .o (op_buildSl (R := (rAny 3 9)) (us := [(AnyV.str t74)]) ud194 tok20 (.cons z0 <| .nil _) rfl (leb rfl)) <| .e [] [2] [3] rfl rfl rfl rfl (op_append (R := (rAny 3 9)) ud194 tok20 (leb rfl) z3 z0 hu80) <| .ud (f := fun v => tv v) 4 rfl [] rfl rfl (op_assign z0) <| .n) fun n20 a w hst => ?_
    replace hst := hst.to [4,5,7,8,9,10,11,12,13,14,15] [_,_,_,_,_,_,_,_,_,_,_] [_,_,_] rfl rfl
    refine hK278 _ _ ?_
    try clear hK278 K278
    refine wr mixed [] hst (fun _ => .o (op_add z4 .k) <| .q 0 rfl <| .n) fun n21 a w hst => ?_
    replace hst := hst.to [1,2,3,4,5,6,7,8,9,10,11] [_,_,_,_,_,_,_,_,_,_,_] [_,_,_] rfl rfl
    exact hK275 _ _ _ (sj h).symm ⟨(n20 4),hst.pick [3,4,0,2,5,6,7,8,9,10]⟩
   ·replace h := ite_f b280 h
    refine wp_exit ?_
    exact hJp247 _ v241 _ _ (ho _ (sj h).symm) (hst.pick [4,5,6,7,8,9,10])
  ·replace h := ite_f b281 h
   refine wp_exit ?_
   exact hJp195 _ v137 _ _ (ho _ (sj h).symm) (hst.pick [4,5])
 refine wp_block ?_
 refine wp_loopK _ (fun (s7 : Int × Str) a w => ∃ v41 : Value,St M w0 132 [(24,tsl rSapi_Kind (x_).Kinds),(25,ti ((x_).Kinds.length : Int)),(26,ti s7.1),(3,tv (n1 0)),(1,tptr (rSapi_Schema.cs x_))] [glo,bld s7.2 (n1 0) v41] a w) _ _ he8 ⟨(n2 5),hst.pick [0,1,2,3,4]⟩ ?_
 clear h
 intro s7 o a w K282 hI h ho hK282
 obtain ⟨v41,hst⟩ := hI
 refine sr mixed [] hst (fun _ => .o (op_lss z2 z1) <| .n) fun n4 a w hst => ?_
 replace hst := hst.to [0,1,2,3,4,5] [_,_,_,_,_,_] [_,_] rfl rfl
 refine wp_seq_k (fun K284 hK284 => ?_)
 refine wt hst (fun b314 => ?_) (fun b314 => ?_)
 ·replace h := ite_t b314 h
  refine wp_skip ?_
  refine hK284 _ _ ?_
  try clear hK284 K284
  refine wp_seq_k (fun K285 hK285 => ?_)
  refine wp_block ?_
  obtain ⟨t28,ht28,h⟩ := bind_some h
  refine sr mixed [v1 2 (fun v0 => box (rSapi_Kind.cs zz1) v0),v1 2 (fun v0 => box (rSapi_Kind.cs t28) v0)] hst (fun _ => .o (op_index ud23 tok55 z1 z3 ht28) <| .o (op_load tok55 z0) <| .m [] [2] rfl rfl rfl (op_alloc (R := rSapi_Kind) (a := zz1) tok55 zok55) <| .e [] [2] [3] rfl rfl rfl rfl (op_storeB (R := rSapi_Kind) (a := t28) tok55 z0 z1 (leb rfl)) <| .n) fun n5 a w hst => ?_
  replace hst : St _ _ _ [_,_,_,_,_,_] [_,_] _ _ := ((((hst.pick [2,4,5,6,7,8]).selA [2,0,1] rfl).shareB 0 rfl).add 0 rfl (fun _ _ _ h => h.2)).pick [0,3,4,5,6,7]
  obtain ⟨t40,ht40,h⟩ := bind_some h
  obtain ⟨t41,ht41,h⟩ := bind_some h
  refine sr mixed [v1 11 (fun v0 => bld t41 (n1 0) v0)] hst (fun _ => .o (op_field fld55_0 z0) <| .o (op_loadT (R := rS) (u := (t28).Name) tok9 z0 rfl) <| .o (op_mkS ud9 z0) <| .o (op_field fld55_1 z3) <| .o (op_loadT (R := rI) (u := (t28).Lo) tok3 z0 rfl) <| .o (op_mkI ud3 z0) <| .o (op_field fld55_2 z6) <| .o (op_loadT (R := rI) (u := (t28).Hi) tok3 z0 rfl) <| .o (op_mkI ud3 z0) <| .o (op_buildSl (R := (rAny 3 9)) (us := [(AnyV.str (t28).Name),(AnyV.int (t28).Lo),(AnyV.int (t28).Hi)]) ud194 tok20 (.cons z6 <| .cons z3 <| .cons z0 <| .nil _) rfl (leb rfl)) <| .u [0] rfl rfl ((op_callF call135 (schema_line_ok ht40) (.cons (.of .k) <| .cons (.of z0) <| .nil)).glo) <| .e [] [1] [2] rfl rfl rfl rfl (op_callF call134 (BWriteString_ok ht41) (.cons (.of z15) <| .cons (.of z0) <| .nil)) <| .n) fun n6 a w hst => ?_
  replace hst := hst.to [12,13,14,15,16,17] [_,_,_,_,_,_] [_,_] rfl rfl
  refine sr mixed [] hst (fun _ => .o (op_field fld55_3 z0) <| .o (op_loadT (R := (rSl rSapi_Field)) (u := (t28).Fields) tok53 z0 rfl) <| .o (op_len ud53 z0) <| .o (op_move .k) <| .n) fun n7 a w hst => ?_
  replace hst := hst.to [1,2,3,5,6,7,8,9] [_,_,_,_,_,_,_,_] [_,_] rfl rfl
  obtain ⟨e291,he291,h⟩ := bind_some h
  have hJp305 : ∀ (p305 : Str) (v306 : Value) a w,p305 = e291 → St M w0 132 [(24,tsl rSapi_Kind (x_).Kinds),(25,ti ((x_).Kinds.length : Int)),(26,ti s7.1),(3,tv (n1 0)),(1,tptr (rSapi_Schema.cs x_))] [glo,bld p305 (n1 0) v306] a w → K285 a w := by
   intro p305 v306 a w he hst
   subst he
   refine hK285 _ _ ?_
   try clear hK285 K285
   refine wr mixed [] hst (fun _ => .o (op_add z2 .k) <| .q 0 rfl <| .n) fun n12 a w hst => ?_
   replace hst := hst.to [1,2,3,4,5] [_,_,_,_,_] [_,_] rfl rfl
   exact hK282 _ _ _ (sj h).symm ⟨v306,hst.pick [1,2,0,3,4]⟩
  refine wp_block ?_
  refine wp_loopK _ (fun (s290 : Int × Str) a w => ∃ v298 : Value,St M w0 132 [(43,tsl rSapi_Field (t28).Fields),(44,ti ((t28).Fields.length : Int)),(45,ti s290.1),(24,tsl rSapi_Kind (x_).Kinds),(25,ti ((x_).Kinds.length : Int)),(26,ti s7.1),(3,tv (n1 0)),(1,tptr (rSapi_Schema.cs x_))] [glo,bld s290.2 (n1 0) v298] a w) _ _ he291 ⟨(n6 11),hst.pick [0,1,2,3,4,5,6,7]⟩ ?_
  clear h
  intro s290 o a w K307 hI h ho hK307
  obtain ⟨v298,hst⟩ := hI
  refine sr mixed [] hst (fun _ => .o (op_lss z2 z1) <| .n) fun n8 a w hst => ?_
  replace hst := hst.to [0,1,2,3,4,5,6,7,8] [_,_,_,_,_,_,_,_,_] [_,_] rfl rfl
  refine wp_seq_k (fun K309 hK309 => ?_)
  refine wt hst (fun b313 => ?_) (fun b313 => ?_)
  ·replace h := ite_t b313 h
   refine wp_skip ?_
   refine hK309 _ _ ?_
   try clear hK309 K309
   refine wp_seq_k (fun K310 hK310 => ?_)
   refine wp_block ?_
   obtain ⟨t47,ht47,h⟩ := bind_some h
   refine sr mixed [v1 2 (fun v0 => box (rSapi_Field.cs zz0) v0),v1 2 (fun v0 => box (rSapi_Field.cs t47) v0)] hst (fun _ => .o (op_index ud53 tok61 z1 z3 ht47) <| .o (op_load tok61 z0) <| .m [] [2] rfl rfl rfl (op_alloc (R := rSapi_Field) (a := zz0) tok61 zok61) <| .e [] [2] [3] rfl rfl rfl rfl (op_storeB (R := rSapi_Field) (a := t47) tok61 z0 z1 (leb rfl)) <| .n) fun n9 a w hst => ?_
   replace hst : St _ _ _ [_,_,_,_,_,_,_,_,_] [_,_] _ _ := ((((hst.pick [2,4,5,6,7,8,9,10,11]).selA [2,0,1] rfl).shareB 0 rfl).add 0 rfl (fun _ _ _ h => h.2)).pick [0,3,4,5,6,7,8,9,10]
   obtain ⟨t50,ht50,h⟩ := bind_some h
   obtain ⟨t51,ht51,h⟩ := bind_some h
   refine wr mixed [v1 2 (fun v0 => bld t51 (n1 0) v0)] hst (fun _ => .o (op_load tok61 z0) <| .u [0] rfl rfl ((op_callF call136 (schema_field_ok ht50) (.cons (.of z0) <| .nil)).glo) <| .e [] [1] [2] rfl rfl rfl rfl (op_callF call134 (BWriteString_ok ht51) (.cons (.of z9) <| .cons (.of z0) <| .nil)) <| .n) fun n10 a w hst => ?_
   replace hst := hst.to [4,5,6,7,8,9,10,11] [_,_,_,_,_,_,_,_] [_,_] rfl rfl
   refine hK310 _ _ ?_
   try clear hK310 K310
   refine wr mixed [] hst (fun _ => .o (op_add z2 .k) <| .q 0 rfl <| .n) fun n11 a w hst => ?_
   replace hst := hst.to [1,2,3,4,5,6,7,8] [_,_,_,_,_,_,_,_] [_,_] rfl rfl
   exact hK307 _ _ _ (sj h).symm ⟨(n10 2),hst.pick [1,2,0,3,4,5,6,7]⟩
  ·replace h := ite_f b313 h
   refine wp_exit ?_
   exact hJp305 _ v298 _ _ (ho _ (sj h).symm) (hst.pick [4,5,6,7,8])
 ·replace h := ite_f b314 h
  refine wp_exit ?_
  exact hJp74 _ v41 _ _ (ho _ (sj h).symm) (hst.pick [4,5])

/- diorama/schema.Valid -/
noncomputable def fschema_Valid (x_ : Sapi_Schema) : Option (Int) := (fschema_within (x_).Version (0:Int) (1048576:Int)).bind fun t6 => (opt (((((!t6) || (decide (((x_).Kinds.length : Int) > (6:Int)))) || (decide (((x_).Lives.length : Int) > (6:Int)))) || (decide (((x_).Rules.length : Int) > (16:Int)))) == false) (fschema_all_Kind (x_).Kinds (fun x0 => fschema_isKind x0)) default).bind fun t29 => (opt ((((((!t6) || (decide (((x_).Kinds.length : Int) > (6:Int)))) || (decide (((x_).Lives.length : Int) > (6:Int)))) || (decide (((x_).Rules.length : Int) > (16:Int)))) || (!t29)) == false) (fschema_all_Life (x_).Lives (fun x0 => fschema_isLife x0)) default).bind fun t35 => (opt (((((((!t6) || (decide (((x_).Kinds.length : Int) > (6:Int)))) || (decide (((x_).Lives.length : Int) > (6:Int)))) || (decide (((x_).Rules.length : Int) > (16:Int)))) || (!t29)) || (!t35)) == false) (fschema_all_Rule (x_).Rules (fun x0 => fschema_isRule x0)) default).bind fun t41 => (if (((((((!t6) || (decide (((x_).Kinds.length : Int) > (6:Int)))) || (decide (((x_).Lives.length : Int) > (6:Int)))) || (decide (((x_).Rules.length : Int) > (16:Int)))) || (!t29)) || (!t35)) || (!t41)) = true then (some (1:Int)) else (fschema_source x_).bind fun t46 => (if (decide ((t46.length : Int) > (8192:Int))) = true then (some (4:Int)) else (some (0:Int))))
set_option maxRecDepth 100000 in
set_option maxHeartbeats 4000000 in
theorem schema_Valid_ok {x_ : Sapi_Schema} {r : Int} (h : fschema_Valid x_ = some r) : FnOk Tryz.prog 62 [rSapi_Schema.ty x_] [glo] (fun _ => []) (fun _ => ti r) := by
 unfold fschema_Valid at h
 refine FnOk.enter Tryz.func62 rfl Tryz.ntmps62 (leb rfl) (fun M0 M w0 a hpl hst => ?_)
 replace hst : St M w0 49 [(0,rSapi_Schema.ty x_)] [glo] a w0 := hst
 refine sr mixed [] hst (fun _ => .o (op_boxR (R := rSapi_Schema) (u := x_) z0) <| .o (op_assign .k) <| .n) fun n0 a w hst => ?_
 replace hst := hst.to [0] [_] [_] rfl rfl
 refine wp_seq_k (fun K2 hK2 => ?_)
 refine wp_block ?_
 obtain ⟨t6,ht6,h⟩ := bind_some h
 obtain ⟨t29,ht29,h⟩ := bind_some h
 obtain ⟨t35,ht35,h⟩ := bind_some h
 obtain ⟨t41,ht41,h⟩ := bind_some h
 refine sr mixed [] hst (fun _ => .o (op_field fld27_0 z0) <| .o (op_loadT (R := rI) (u := (x_).Version) tok3 z0 rfl) <| .o (op_callF call97 (schema_within_ok ht6) (.cons (.of z0) <| .cons (.of .k) <| .cons (.of .k) <| .nil)) <| .o (op_not z0) <| .q 0 rfl <| .g rfl rfl (.b 0 rfl) (fun _ => op_field fld27_1 z5) <| .g rfl rfl (.b 1 rfl) (fun hc => op_loadT (R := (rSl rSapi_Kind)) (u := (x_).Kinds) tok23 (.cond z0 hc) rfl) <| .g rfl rfl (.b 2 rfl) (fun hc => op_len ud23 (.cond z0 hc)) <| .g rfl rfl (.b 3 rfl) (fun hc => op_gtr (.cond z0 hc) .k) <| .o (op_or z4 (fun hp => (.cond z0 (beqF hp)))) <| .q 0 rfl <| .g rfl rfl (.b 0 rfl) (fun _ => op_field fld27_2 z11) <| .g rfl rfl (.b 1 rfl) (fun hc => op_loadT (R := (rSl rSapi_Life)) (u := (x_).Lives) tok24 (.cond z0 hc) rfl) <| .g rfl rfl (.b 2 rfl) (fun hc => op_len ud24 (.cond z0 hc)) <| .g rfl rfl (.b 3 rfl) (fun hc => op_gtr (.cond z0 hc) .k) <| .o (op_or z4 (fun hp => (.cond z0 (beqF hp)))) <| .q 0 rfl <| .g rfl rfl (.b 0 rfl) (fun _ => op_field fld27_3 z17) <| .g rfl rfl (.b 1 rfl) (fun hc => op_loadT (R := (rSl rSapi_Rule)) (u := (x_).Rules) tok25 (.cond z0 hc) rfl) <| .g rfl rfl (.b 2 rfl) (fun hc => op_len ud25 (.cond z0 hc)) <| .g rfl rfl (.b 3 rfl) (fun hc => op_gtr (.cond z0 hc) .k) <| .o (op_or z4 (fun hp => (.cond z0 (beqF hp)))) <| .q 0 rfl <| .g rfl rfl (.b 0 rfl) (fun _ => op_field fld27_1 z23) <| .g rfl rfl (.b 1 rfl) (fun hc => op_loadT (R := (rSl rSapi_Kind)) (u := (x_).Kinds) tok23 (.cond z0 hc) rfl) <| .g rfl rfl (.b 2 rfl) (fun hc => op_callF call98 (schema_all_Kind_ok (opt_t ht29 hc)) (.cons (.of (.cond z0 hc)) <| .cons (.of (Fct.weak .fnE (tfn_of call99 (fun _ _ hq => schema_isKind_ok hq)))) <| .nil)) <| .g rfl rfl (.b 3 rfl) (fun hc => op_not (.cond z0 hc)) <| .o (op_or z4 (fun hp => (.cond z0 (beqF hp)))) <| .q 0 rfl <| .g rfl rfl (.b 0 rfl) (fun _ => op_field fld27_2 z29) <| .g rfl rfl (.b 1 rfl) (fun hc => op_loadT (R := (rSl rSapi_Life)) (u := (x_).Lives) tok24 (.cond z0 hc) rfl) <| .g rfl rfl (.b 2 rfl) (fun hc => op_callF call100 (schema_all_Life_ok (opt_t ht35 hc)) (.cons (.of (.cond z0 hc)) <| .cons (.of (Fct.weak .fnE (tfn_of call101 (fun _ _ hq => schema_isLife_ok hq)))) <| .nil)) <| .g rfl rfl (.b 3 rfl) (fun hc => op_not (.cond z0 hc)) <| .o (op_or z4 (fun hp => (.cond z0 (beqF hp)))) <| .q 0 rfl <| .g rfl rfl (.b 0 rfl) (fun _ => op_field fld27_3 (.t 35 rfl)) <| .g rfl rfl (.b 1 rfl) (fun hc => op_loadT (R := (rSl rSapi_Rule)) (u := (x_).Rules) tok25 (.cond z0 hc) rfl) <| .g rfl rfl (.b 2 rfl) (fun hc => op_callF call102 (schema_all_Rule_ok (opt_t ht41 hc)) (.cons (.of (.cond z0 hc)) <| .cons (.of (Fct.weak .fnE (tfn_of call103 (fun _ _ hq => schema_isRule_ok hq)))) <| .nil)) <| .g rfl rfl (.b 3 rfl) (fun hc => op_not (.cond z0 hc)) <| .o (op_or z4 (fun hp => (.cond z0 (beqF hp)))) <| .o (op_assign z0) <| .n) fun n1 a w hst => ?_
 replace hst := hst.to [40,41] [_,_] [_] rfl rfl
 refine wt hst (fun b9 => ?_) (fun b9 => ?_)
 ·replace h := ite_t b9 h
  refine sr mixed [] hst (fun _ => .o (op_assign .k) <| .n) fun n2 a w hst => ?_
  replace hst := hst.to [0] [_] [_] rfl rfl
  refine wp_ret ?_
  obtain rfl := sj h
  exact ret_st undef [] hpl hst rfl (.tmp z0 .nil) rfl rfl rfl
 ·replace h := ite_f b9 h
  obtain ⟨t46,ht46,h⟩ := bind_some h
  refine sr mixed [] hst (fun _ => .o (op_load tok27 z1) <| .u [0] rfl rfl ((op_callF call104 (schema_source_ok ht46) (.cons (.of z0) <| .nil)).glo) <| .o (op_lenS' ud9 z0) <| .o (op_gtr z0 .k) <| .o (op_assign z0) <| .n) fun n3 a w hst => ?_
  replace hst := hst.to [4] [_] [_] rfl rfl
  refine wt hst (fun b8 => ?_) (fun b8 => ?_)
  ·replace h := ite_t b8 h
   refine sr mixed [] hst (fun _ => .o (op_assign .k) <| .n) fun n4 a w hst => ?_
   replace hst := hst.to [0] [_] [_] rfl rfl
   refine wp_ret ?_
   obtain rfl := sj h
   exact ret_st undef [] hpl hst rfl (.tmp z0 .nil) rfl rfl rfl
  ·replace h := ite_f b8 h
   refine wp_skip ?_
   refine hK2 _ _ ?_
   try clear hK2 K2
   refine sr mixed [] hst (fun _ => .o (op_assign .k) <| .n) fun n5 a w hst => ?_
   replace hst := hst.to [0] [_] [_] rfl rfl
   refine wp_ret ?_
   obtain rfl := sj h
   exact ret_st undef [] hpl hst rfl (.tmp z0 .nil) rfl rfl rfl

/- diorama/typing.Check$1 -/
noncomputable def ftyping_Checkq1 (kind_ : Int) (field_ : Int) (rule_ : Int) (e_ : Int) (c0_ : (List Styping_Problem)) : Option ((List Styping_Problem)) := ((if (e_ != (0:Int)) = true then (rm (c0_.length + [(Styping_Problem.mk kind_ field_ rule_ e_)].length)).bind fun _ => (some (c0_ ++ [(Styping_Problem.mk kind_ field_ rule_ e_)])) else (some c0_))).bind fun (p4 : List Styping_Problem) => (some p4)
set_option maxRecDepth 100000 in
set_option maxHeartbeats 4000000 in
theorem typing_Checkq1_ok {q4 : Value} {vh4 : Value} {kind_ : Int} {field_ : Int} {rule_ : Int} {e_ : Int} {c0_ : (List Styping_Problem)} {r : (List Styping_Problem)} (h : ftyping_Checkq1 kind_ field_ rule_ e_ c0_ = some r) : FnOk Tryz.prog 63 [ti kind_,ti field_,ti rule_,ti e_,tv q4] [box (rVal.cs vh4) q4,own rStyping_Problem 119 c0_ vh4] (fun v => [box (rVal.cs v) q4,own rStyping_Problem 119 r v]) (fun _ => ttup []) := by
 unfold ftyping_Checkq1 at h
 refine FnOk.enter Tryz.func63 rfl Tryz.ntmps63 (leb rfl) (fun M0 M w0 a hpl hst => ?_)
 replace hst : St M w0 19 [(0,ti kind_),(1,ti field_),(2,ti rule_),(3,ti e_),(4,tv q4)] [box (rVal.cs vh4) q4,own rStyping_Problem 119 c0_ vh4] a w0 := hst
 refine sr mixed [] hst (fun _ => .q 3 rfl <| .o (op_neq z0 .k) <| .n) fun n0 a w hst => ?_
 replace hst := hst.to [1,2,3,4,5,6] [_,_,_,_,_,_] [_,_] rfl rfl
 obtain ⟨p4,hp4,h⟩ := bind_some h
 have hJp4 : ∀ (v6 : Value) a w,St M w0 19 [(4,tv q4)] [own rStyping_Problem 119 p4 v6,box (rVal.cs v6) q4] a w → Ret Tryz.prog Tryz.f63 M0 [box (rVal.cs vh4) q4,own rStyping_Problem 119 c0_ vh4] w0 (fun v => [box (rVal.cs v) q4,own rStyping_Problem 119 r v]) (fun _ => ttup []) .normal a w := by
  intro v6 a w hst
  obtain rfl := sj h
  exact ret_stN v6 [1,0] hpl hst rfl .nil rfl rfl rfl
 replace h := hp4
 clear hp4
 refine wt hst (fun b7 => ?_) (fun b7 => ?_)
 ·replace h := ite_t b7 h
  obtain ⟨u18,hu18,h⟩ := bind_some h
  refine wr mixed [v1 7 (fun v0 => own rStyping_Problem 119 (c0_ ++ [(Styping_Problem.mk kind_ field_ rule_ e_)]) v0),v1 7 (fun v0 => box (rVal.cs v0) q4)] hst (fun _ => .u [0] rfl rfl (op_loadBV tokV68 z5) <| .q 2 rfl <| .q 4 rfl <| .q 6 rfl <| .q 8 rfl <| .p (T := rStyping_Problem.ty (Styping_Problem.mk kind_ field_ rule_ e_)) rfl (op_build Tryz.underlying119 pl119 zv119 zc119 (.cons (R := rI) (u := kind_) rfl z3 (leb rfl) <| .cons (R := rI) (u := field_) rfl z2 (leb rfl) <| .cons (R := rI) (u := rule_) rfl z1 (leb rfl) <| .cons (R := rI) (u := e_) rfl z0 (leb rfl) <| .nil _)) <| .o (op_buildSl (R := rStyping_Problem) (us := [(Styping_Problem.mk kind_ field_ rule_ e_)]) ud68 tok119 (.cons z0 <| .nil _) rfl (leb rfl)) <| .e [] [1] [2] rfl rfl rfl rfl (op_append (R := rStyping_Problem) ud68 tok119 (leb rfl) z6 z0 hu18) <| .e [2] [0] [3] rfl rfl rfl rfl (op_storeBV2 (R := rStyping_Problem) (e := 119) (Ts := (rVal.cs vh4)) tokV68 z13 z0 (leb rfl)) <| .n) fun n1 a w hst => ?_
  replace hst := hst.to [7,13] [_,_] [_,_] rfl rfl
  obtain rfl := sj h
  exact hJp4 (n1 7) _ _ (hst.pick [1])
 ·replace h := ite_f b7 h
  refine wp_skip ?_
  obtain rfl := sj h
  exact hJp4 vh4 _ _ ((hst.pick [5]).selA [1,0] rfl)

/- diorama/typing.Check$2 -/
noncomputable def ftyping_Checkq2 (m_ : Sapi_Life) (c0_ : Sapi_Life) : Option (Bool) := (some ((m_).Name == (c0_).Name))
set_option maxRecDepth 100000 in
set_option maxHeartbeats 4000000 in
theorem typing_Checkq2_ok {m_ : Sapi_Life} {c0_ : Sapi_Life} {r : Bool} (h : ftyping_Checkq2 m_ c0_ = some r) : FnOk Tryz.prog 65 [rSapi_Life.ty m_,tptr (rSapi_Life.cs c0_)] [] (fun _ => []) (fun _ => tb r) := by
 unfold ftyping_Checkq2 at h
 refine FnOk.enter Tryz.func65 rfl Tryz.ntmps65 (leb rfl) (fun M0 M w0 a hpl hst => ?_)
 replace hst : St M w0 9 [(0,rSapi_Life.ty m_),(1,tptr (rSapi_Life.cs c0_))] [] a w0 := hst
 refine sr mixed [] hst (fun _ => .o (op_boxR (R := rSapi_Life) (u := m_) z0) <| .o (op_assign .k) <| .n) fun n0 a w hst => ?_
 replace hst := hst.to [0,3] [_,_] [] rfl rfl
 refine sr mixed [] hst (fun _ => .o (op_field fld81_0 z0) <| .o (op_loadT (R := rS) (u := (m_).Name) tok9 z0 rfl) <| .o (op_field fld81_0 z3) <| .o (op_loadT (R := rS) (u := (c0_).Name) tok9 z0 rfl) <| .o (op_eqlS z2 z0) <| .o (op_assign z0) <| .n) fun n1 a w hst => ?_
 replace hst := hst.to [5] [_] [] rfl rfl
 refine wp_ret ?_
 obtain rfl := sj h
 exact ret_st undef [] hpl hst rfl (.tmp z0 .nil) rfl rfl rfl

/- diorama/typing.first -/
noncomputable def ftyping_first (l_ : (List Styping_fault)) : Option (Int) := (tailrec (fun (s4 : Int) => ((if (decide (s4 < (l_.length : Int))) = true then (idx l_ s4).bind fun t9 => (if (t9).is = true then (some (.inr (.inr (t9).code))) else (some (.inl (IntKind.i64.wrap (s4 + (1:Int)))))) else (some (.inr (.inl ())))) : Option ((Int) ⊕ ((Unit) ⊕ (Int))))) (0:Int)).bind fun (e5 : (Unit) ⊕ (Int)) => (match e5 with | .inl _ => (some (0:Int)) | .inr p25 => (some p25))
set_option maxRecDepth 100000 in
set_option maxHeartbeats 4000000 in
theorem typing_first_ok {l_ : (List Styping_fault)} {r : Int} (h : ftyping_first l_ = some r) : FnOk Tryz.prog 66 [tsl rStyping_fault l_] [] (fun _ => []) (fun _ => ti r) := by
 unfold ftyping_first at h
 refine FnOk.enter Tryz.func66 rfl Tryz.ntmps66 (leb rfl) (fun M0 M w0 a hpl hst => ?_)
 replace hst : St M w0 16 [(0,tsl rStyping_fault l_)] [] a w0 := hst
 refine sr mixed [] hst (fun _ => .o (op_assign .k) <| .n) fun n0 a w hst => ?_
 replace hst := hst.to [1] [_] [] rfl rfl
 refine wp_seq_k (fun K2 hK2 => ?_)
 refine sr mixed [] hst (fun _ => .q 0 rfl <| .o (op_len ud166 z0) <| .o (op_move .k) <| .n) fun n1 a w hst => ?_
 replace hst := hst.to [0,1,2] [_,_,_] [] rfl rfl
 obtain ⟨e5,he5,h⟩ := bind_some h
 have hJp24 : ∀ (p24 : Unit) a w,(.inl p24) = e5 → St M w0 16 [] [] a w → K2 a w := by
  intro p24 a w he hst
  subst he
  simp only at h
  refine hK2 _ _ ?_
  try clear hK2 K2
  refine sr mixed [] hst (fun _ => .o (op_assign .k) <| .n) fun n7 a w hst => ?_
  replace hst := hst.to [0] [_] [] rfl rfl
  refine wp_ret ?_
  obtain rfl := sj h
  exact ret_st undef [] hpl hst rfl (.tmp z0 .nil) rfl rfl rfl
 have hJp25 : ∀ (p25 : Int) a w,(.inr p25) = e5 → St M w0 16 [(2,ti p25)] [] a w → Ret Tryz.prog Tryz.f66 M0 [] w0 (fun _ => []) (fun _ => ti r) .ret a w := by
  intro p25 a w he hst
  subst he
  simp only at h
  obtain rfl := sj h
  exact ret_st undef [] hpl hst rfl (.tmp z0 .nil) rfl rfl rfl
 refine wp_block ?_
 refine wp_loopK _ (fun (s4 : Int) a w => St M w0 16 [(5,tsl rStyping_fault l_),(6,ti (l_.length : Int)),(7,ti s4)] [] a w) _ _ he5 (hst.pick [0,1,2]) ?_
 clear h
 intro s4 o a w K27 hI h ho hK27
 have hst := hI
 clear hI
 refine sr mixed [] hst (fun _ => .o (op_lss z2 z1) <| .n) fun n2 a w hst => ?_
 replace hst := hst.to [0,1,2,3] [_,_,_,_] [] rfl rfl
 refine wp_seq_k (fun K29 hK29 => ?_)
 refine wt hst (fun b36 => ?_) (fun b36 => ?_)
 ·replace h := ite_t b36 h
  refine wp_skip ?_
  refine hK29 _ _ ?_
  try clear hK29 K29
  refine wp_seq_k (fun K30 hK30 => ?_)
  refine wp_block ?_
  obtain ⟨t9,ht9,h⟩ := bind_some h
  refine sr mixed [v1 2 (fun v0 => box (rStyping_fault.cs (Styping_fault.mk false (0:Int))) v0),v1 2 (fun v0 => box (rStyping_fault.cs t9) v0)] hst (fun _ => .o (op_index ud166 tok125 z1 z3 ht9) <| .o (op_load tok125 z0) <| .m [] [0] rfl rfl rfl (op_alloc (R := rStyping_fault) (a := (Styping_fault.mk false (0:Int))) tok125 zok125) <| .e [] [0] [1] rfl rfl rfl rfl (op_storeB (R := rStyping_fault) (a := t9) tok125 z0 z1 (leb rfl)) <| .n) fun n3 a w hst => ?_
  replace hst : St _ _ _ [_,_,_,_] [] _ _ := (((hst.pick [2,4,5,6]).shareB 0 rfl).add 0 rfl (fun _ _ _ h => h.2)).pick [0,3,4,5]
  refine sr mixed [] hst (fun _ => .o (op_field fld125_0 z0) <| .o (op_loadT (R := rBool) (u := (t9).is) tok4 z0 rfl) <| .n) fun n4 a w hst => ?_
  replace hst := hst.to [1,2,3,4,5] [_,_,_,_,_] [] rfl rfl
  refine wt hst (fun b35 => ?_) (fun b35 => ?_)
  ·replace h := ite_t b35 h
   refine sr mixed [] hst (fun _ => .o (op_field fld125_1 z1) <| .o (op_loadT (R := rI) (u := (t9).code) tok33 z0 rfl) <| .o (op_assign z0) <| .n) fun n5 a w hst => ?_
   replace hst := hst.to [2] [_] [] rfl rfl
   refine wp_ret ?_
   exact hJp25 _ _ _ (ho _ (sj h).symm) (hst.pick [0])
  ·replace h := ite_f b35 h
   refine wp_skip ?_
   refine hK30 _ _ ?_
   try clear hK30 K30
   refine wr mixed [] hst (fun _ => .o (op_add z4 .k) <| .q 0 rfl <| .n) fun n6 a w hst => ?_
   replace hst := hst.to [1,4,5] [_,_,_] [] rfl rfl
   exact hK27 _ _ _ (sj h).symm (hst.pick [1,2,0])
 ·replace h := ite_f b36 h
  refine wp_exit ?_
  exact hJp24 _ _ _ (ho _ (sj h).symm) (hst.pick [])

/- diorama/typing.Kind$1 -/
noncomputable def ftyping_Kindq1 (k_ : Sapi_Kind) (c0_ : Str) : Option (Bool) := (some ((k_).Name == c0_))
set_option maxRecDepth 100000 in
set_option maxHeartbeats 4000000 in
theorem typing_Kindq1_ok {k_ : Sapi_Kind} {c0_ : Str} {r : Bool} (h : ftyping_Kindq1 k_ c0_ = some r) : FnOk Tryz.prog 74 [rSapi_Kind.ty k_,tptr (rS.cs c0_)] [] (fun _ => []) (fun _ => tb r) := by
 unfold ftyping_Kindq1 at h
 refine FnOk.enter Tryz.func74 rfl Tryz.ntmps74 (leb rfl) (fun M0 M w0 a hpl hst => ?_)
 replace hst : St M w0 8 [(0,rSapi_Kind.ty k_),(1,tptr (rS.cs c0_))] [] a w0 := hst
 refine sr mixed [] hst (fun _ => .o (op_boxR (R := rSapi_Kind) (u := k_) z0) <| .o (op_assign .k) <| .n) fun n0 a w hst => ?_
 replace hst := hst.to [0,3] [_,_] [] rfl rfl
 refine sr mixed [] hst (fun _ => .o (op_field fld55_0 z0) <| .o (op_loadT (R := rS) (u := (k_).Name) tok9 z0 rfl) <| .o (op_load tok9 z3) <| .o (op_eqlS z1 z0) <| .o (op_assign z0) <| .n) fun n1 a w hst => ?_
 replace hst := hst.to [4] [_] [] rfl rfl
 refine wp_ret ?_
 obtain rfl := sj h
 exact ret_st undef [] hpl hst rfl (.tmp z0 .nil) rfl rfl rfl

/- diorama/typing.Kind -/
noncomputable def ftyping_Kind (x_ : Sapi_Schema) (name_ : Str) : Option (Int) := (fslices_IndexFunc_Kind (x_).Kinds (fun x0 => ftyping_Kindq1 x0 name_)).bind fun t8 => (some t8)
set_option maxRecDepth 100000 in
set_option maxHeartbeats 4000000 in
theorem typing_Kind_ok {x_ : Sapi_Schema} {name_ : Str} {r : Int} (h : ftyping_Kind x_ name_ = some r) : FnOk Tryz.prog 38 [rSapi_Schema.ty x_,tv (.string (sB name_))] [] (fun _ => []) (fun _ => ti r) := by
 unfold ftyping_Kind at h
 refine FnOk.enter Tryz.func38 rfl Tryz.ntmps38 (leb rfl) (fun M0 M w0 a hpl hst => ?_)
 replace hst : St M w0 9 [(0,rSapi_Schema.ty x_),(1,tv (.string (sB name_)))] [] a w0 := hst
 refine sr mixed [] hst (fun _ => .o (op_boxR (R := rSapi_Schema) (u := x_) z0) <| .o (op_boxR (R := rS) (u := name_) z2) <| .o (op_assign .k) <| .n) fun n0 a w hst => ?_
 replace hst := hst.to [0,1] [_,_] [] rfl rfl
 obtain ⟨t8,ht8,h⟩ := bind_some h
 refine sr mixed [] hst (fun _ => .o (op_field fld27_1 z0) <| .o (op_loadT (R := (rSl rSapi_Kind)) (u := (x_).Kinds) tok23 z0 rfl) <| .o (op_clo (.cons z3 <| .nil)) <| .o (op_callF call73 (slices_IndexFunc_Kind_ok ht8) (.cons (.of z1) <| .cons (.of (Fct.weak z0 (tfn_of call74 (fun _ _ hq => typing_Kindq1_ok hq)))) <| .nil)) <| .o (op_assign z0) <| .n) fun n1 a w hst => ?_
 replace hst := hst.to [4] [_] [] rfl rfl
 refine wp_ret ?_
 obtain rfl := sj h
 exact ret_st undef [] hpl hst rfl (.tmp z0 .nil) rfl rfl rfl

/- diorama/typing.kind -/
noncomputable def ftyping_kind (x_ : Sapi_Schema) (i_ : Int) : Option (Int) := (idx (x_).Kinds i_).bind fun t9 => (ftyping_Kind x_ (t9).Name).bind fun t14 => (opt ((((t9).Fields.length : Int) == (0:Int)) == false) (idx (t9).Fields (0:Int)) default).bind fun t25 => (ftyping_first [(Styping_fault.mk (decide (t14 < i_)) (7:Int)),(Styping_fault.mk ((((t9).Fields.length : Int) == (0:Int)) || ((t25).Kind != (0:Int))) (11:Int))]).bind fun t32 => (some t32)
set_option maxRecDepth 100000 in
set_option maxHeartbeats 4000000 in
theorem typing_kind_ok {x_ : Sapi_Schema} {i_ : Int} {r : Int} (h : ftyping_kind x_ i_ = some r) : FnOk Tryz.prog 67 [rSapi_Schema.ty x_,ti i_] [] (fun _ => []) (fun _ => ti r) := by
 unfold ftyping_kind at h
 refine FnOk.enter Tryz.func67 rfl Tryz.ntmps67 (leb rfl) (fun M0 M w0 a hpl hst => ?_)
 replace hst : St M w0 33 [(0,rSapi_Schema.ty x_),(1,ti i_)] [] a w0 := hst
 refine sr mixed [] hst (fun _ => .o (op_boxR (R := rSapi_Schema) (u := x_) z0) <| .o (op_assign .k) <| .n) fun n0 a w hst => ?_
 replace hst := hst.to [0,3] [_,_] [] rfl rfl
 obtain ⟨t9,ht9,h⟩ := bind_some h
 refine sr mixed [v1 5 (fun v0 => box (rSapi_Kind.cs zz1) v0),v1 5 (fun v0 => box (rSapi_Kind.cs t9) v0)] hst (fun _ => .o (op_field fld27_1 z0) <| .o (op_loadT (R := (rSl rSapi_Kind)) (u := (x_).Kinds) tok23 z0 rfl) <| .q 3 rfl <| .o (op_index ud23 tok55 z1 z0 ht9) <| .o (op_load tok55 z0) <| .m [] [0] rfl rfl rfl (op_alloc (R := rSapi_Kind) (a := zz1) tok55 zok55) <| .e [] [0] [1] rfl rfl rfl rfl (op_storeB (R := rSapi_Kind) (a := t9) tok55 z0 z1 (leb rfl)) <| .n) fun n1 a w hst => ?_
 replace hst : St _ _ _ [_,_,_] [] _ _ := (((hst.pick [5,6,7]).shareB 0 rfl).add 0 rfl (fun _ _ _ h => h.2)).pick [0,3,4]
 obtain ⟨t14,ht14,h⟩ := bind_some h
 obtain ⟨t25,ht25,h⟩ := bind_some h
 obtain ⟨t32,ht32,h⟩ := bind_some h
 refine sr mixed [] hst (fun _ => .o (op_load tok27 z1) <| .o (op_field fld55_0 z1) <| .o (op_loadT (R := rS) (u := (t9).Name) tok9 z0 rfl) <| .o (op_callF call38 (typing_Kind_ok ht14) (.cons (.of z2) <| .cons (.of z0) <| .nil)) <| .q 6 rfl <| .o (op_lss z1 z0) <| .p (T := rStyping_fault.ty (Styping_fault.mk (decide (t14 < i_)) (7:Int))) rfl (op_build ud125 pl125 zv125 zc125 (.cons (R := rBool) (u := (decide (t14 < i_))) rfl z0 (leb rfl) <| .cons (R := rI) (u := (7:Int)) rfl .k (leb rfl) <| .nil _)) <| .o (op_field fld55_3 z7) <| .o (op_loadT (R := (rSl rSapi_Field)) (u := (t9).Fields) tok53 z0 rfl) <| .o (op_len ud53 z0) <| .o (op_eql z0 .k) <| .q 0 rfl <| .g rfl rfl (.b 0 rfl) (fun _ => op_field fld55_3 z12) <| .g rfl rfl (.b 1 rfl) (fun hc => op_loadT (R := (rSl rSapi_Field)) (u := (t9).Fields) tok53 (.cond z0 hc) rfl) <| .g rfl rfl (.b 2 rfl) (fun hc => op_index ud53 tok61 (.cond z0 hc) .k (opt_t ht25 hc)) <| .g rfl rfl (.b 3 rfl) (fun hc => op_field fld61_3 (.cond z0 hc)) <| .g rfl rfl (.b 4 rfl) (fun hc => op_loadT (R := rI) (u := (t25).Kind) tok3 (.cond z0 hc) rfl) <| .g rfl rfl (.b 5 rfl) (fun hc => op_neq (.cond z0 hc) .k) <| .o (op_or z6 (fun hp => (.cond z0 (beqF hp)))) <| .p (T := rStyping_fault.ty (Styping_fault.mk ((((t9).Fields.length : Int) == (0:Int)) || ((t25).Kind != (0:Int))) (11:Int))) rfl (op_build ud125 pl125 zv125 zc125 (.cons (R := rBool) (u := ((((t9).Fields.length : Int) == (0:Int)) || ((t25).Kind != (0:Int)))) rfl z0 (leb rfl) <| .cons (R := rI) (u := (11:Int)) rfl .k (leb rfl) <| .nil _)) <| .o (op_buildSl (R := rStyping_fault) (us := [(Styping_fault.mk (decide (t14 < i_)) (7:Int)),(Styping_fault.mk ((((t9).Fields.length : Int) == (0:Int)) || ((t25).Kind != (0:Int))) (11:Int))]) ud166 tok125 (.cons z13 <| .cons z0 <| .nil _) rfl (leb rfl)) <| .o (op_callF call66 (typing_first_ok ht32) (.cons (.of z0) <| .nil)) <| .o (op_assign z0) <| .n) fun n2 a w hst => ?_
 replace hst := hst.to [22] [_] [] rfl rfl
 refine wp_ret ?_
 obtain rfl := sj h
 exact ret_st undef [] hpl hst rfl (.tmp z0 .nil) rfl rfl rfl

/- diorama/typing.Field$1 -/
noncomputable def ftyping_Fieldq1 (f_ : Sapi_Field) (c0_ : Str) : Option (Bool) := (some ((f_).Name == c0_))
set_option maxRecDepth 100000 in
set_option maxHeartbeats 4000000 in
theorem typing_Fieldq1_ok {f_ : Sapi_Field} {c0_ : Str} {r : Bool} (h : ftyping_Fieldq1 f_ c0_ = some r) : FnOk Tryz.prog 107 [rSapi_Field.ty f_,tptr (rS.cs c0_)] [] (fun _ => []) (fun _ => tb r) := by
 unfold ftyping_Fieldq1 at h
 refine FnOk.enter Tryz.func107 rfl Tryz.ntmps107 (leb rfl) (fun M0 M w0 a hpl hst => ?_)
 replace hst : St M w0 8 [(0,rSapi_Field.ty f_),(1,tptr (rS.cs c0_))] [] a w0 := hst
 refine sr mixed [] hst (fun _ => .o (op_boxR (R := rSapi_Field) (u := f_) z0) <| .o (op_assign .k) <| .n) fun n0 a w hst => ?_
 replace hst := hst.to [0,3] [_,_] [] rfl rfl
 refine sr mixed [] hst (fun _ => .o (op_field fld61_0 z0) <| .o (op_loadT (R := rS) (u := (f_).Name) tok9 z0 rfl) <| .o (op_load tok9 z3) <| .o (op_eqlS z1 z0) <| .o (op_assign z0) <| .n) fun n1 a w hst => ?_
 replace hst := hst.to [4] [_] [] rfl rfl
 refine wp_ret ?_
 obtain rfl := sj h
 exact ret_st undef [] hpl hst rfl (.tmp z0 .nil) rfl rfl rfl

/- diorama/typing.Field -/
noncomputable def ftyping_Field (k_ : Sapi_Kind) (name_ : Str) : Option (Int) := (fslices_IndexFunc_Field (k_).Fields (fun x0 => ftyping_Fieldq1 x0 name_)).bind fun t8 => (some t8)
set_option maxRecDepth 100000 in
set_option maxHeartbeats 4000000 in
theorem typing_Field_ok {k_ : Sapi_Kind} {name_ : Str} {r : Int} (h : ftyping_Field k_ name_ = some r) : FnOk Tryz.prog 68 [rSapi_Kind.ty k_,tv (.string (sB name_))] [] (fun _ => []) (fun _ => ti r) := by
 unfold ftyping_Field at h
 refine FnOk.enter Tryz.func68 rfl Tryz.ntmps68 (leb rfl) (fun M0 M w0 a hpl hst => ?_)
 replace hst : St M w0 9 [(0,rSapi_Kind.ty k_),(1,tv (.string (sB name_)))] [] a w0 := hst
 refine sr mixed [] hst (fun _ => .o (op_boxR (R := rSapi_Kind) (u := k_) z0) <| .o (op_boxR (R := rS) (u := name_) z2) <| .o (op_assign .k) <| .n) fun n0 a w hst => ?_
 replace hst := hst.to [0,1] [_,_] [] rfl rfl
 obtain ⟨t8,ht8,h⟩ := bind_some h
 refine sr mixed [] hst (fun _ => .o (op_field fld55_3 z0) <| .o (op_loadT (R := (rSl rSapi_Field)) (u := (k_).Fields) tok53 z0 rfl) <| .o (op_clo (.cons z3 <| .nil)) <| .o (op_callF call106 (slices_IndexFunc_Field_ok ht8) (.cons (.of z1) <| .cons (.of (Fct.weak z0 (tfn_of call107 (fun _ _ hq => typing_Fieldq1_ok hq)))) <| .nil)) <| .o (op_assign z0) <| .n) fun n1 a w hst => ?_
 replace hst := hst.to [4] [_] [] rfl rfl
 refine wp_ret ?_
 obtain rfl := sj h
 exact ret_st undef [] hpl hst rfl (.tmp z0 .nil) rfl rfl rfl

/- diorama/typing.rule$1 -/
noncomputable def ftyping_ruleq1 (s_ : Sapi_Rule) (c0_ : Sapi_Rule) : Option (Bool) := (some ((s_).Name == (c0_).Name))
set_option maxRecDepth 100000 in
set_option maxHeartbeats 4000000 in
theorem typing_ruleq1_ok {s_ : Sapi_Rule} {c0_ : Sapi_Rule} {r : Bool} (h : ftyping_ruleq1 s_ c0_ = some r) : FnOk Tryz.prog 109 [rSapi_Rule.ty s_,tptr (rSapi_Rule.cs c0_)] [] (fun _ => []) (fun _ => tb r) := by
 unfold ftyping_ruleq1 at h
 refine FnOk.enter Tryz.func109 rfl Tryz.ntmps109 (leb rfl) (fun M0 M w0 a hpl hst => ?_)
 replace hst : St M w0 9 [(0,rSapi_Rule.ty s_),(1,tptr (rSapi_Rule.cs c0_))] [] a w0 := hst
 refine sr mixed [] hst (fun _ => .o (op_boxR (R := rSapi_Rule) (u := s_) z0) <| .o (op_assign .k) <| .n) fun n0 a w hst => ?_
 replace hst := hst.to [0,3] [_,_] [] rfl rfl
 refine sr mixed [] hst (fun _ => .o (op_field fld84_0 z0) <| .o (op_loadT (R := rS) (u := (s_).Name) tok9 z0 rfl) <| .o (op_field fld84_0 z3) <| .o (op_loadT (R := rS) (u := (c0_).Name) tok9 z0 rfl) <| .o (op_eqlS z2 z0) <| .o (op_assign z0) <| .n) fun n1 a w hst => ?_
 replace hst := hst.to [5] [_] [] rfl rfl
 refine wp_ret ?_
 obtain rfl := sj h
 exact ret_st undef [] hpl hst rfl (.tmp z0 .nil) rfl rfl rfl

/- diorama/typing.at -/
noncomputable def ftyping_at (x_ : Sapi_Schema) (kind_ : Int) (field_ : Int) : Option (Sapi_Field × Bool) := (opt ((((decide (kind_ < (0:Int))) || (decide (kind_ ≥ ((x_).Kinds.length : Int)))) || (decide (field_ < (0:Int)))) == false) (idx (x_).Kinds kind_) default).bind fun t26 => (if ((((decide (kind_ < (0:Int))) || (decide (kind_ ≥ ((x_).Kinds.length : Int)))) || (decide (field_ < (0:Int)))) || (decide (field_ ≥ ((t26).Fields.length : Int)))) = true then (some (zz0,false)) else (idx (x_).Kinds kind_).bind fun t36 => (idx (t36).Fields field_).bind fun t40 => (some (t40,true)))
set_option maxRecDepth 100000 in
set_option maxHeartbeats 4000000 in
theorem typing_at_ok {x_ : Sapi_Schema} {kind_ : Int} {field_ : Int} {r : Sapi_Field × Bool} (h : ftyping_at x_ kind_ field_ = some r) : FnOk Tryz.prog 110 [rSapi_Schema.ty x_,ti kind_,ti field_] [] (fun _ => []) (fun _ => ttup [rSapi_Field.ty r.1,tb r.2]) := by
 unfold ftyping_at at h
 refine FnOk.enter Tryz.func110 rfl Tryz.ntmps110 (leb rfl) (fun M0 M w0 a hpl hst => ?_)
 replace hst : St M w0 42 [(0,rSapi_Schema.ty x_),(1,ti kind_),(2,ti field_)] [] a w0 := hst
 refine sr mixed [v1 1 (fun v0 => box (rSapi_Field.cs zz0) v0)] hst (fun _ => .o (op_boxR (R := rSapi_Schema) (u := x_) z0) <| .m [] [0] rfl rfl rfl (op_alloc (R := rSapi_Field) (a := zz0) tok61 zok61) <| .o (op_assign .k) <| .n) fun n0 a w hst => ?_
 replace hst := hst.to [0,1,4,5] [_,_,_,_] [_] rfl rfl
 refine wp_seq_k (fun K3 hK3 => ?_)
 obtain ⟨t26,ht26,h⟩ := bind_some h
 refine sr mixed [] hst (fun _ => .q 2 rfl <| .o (op_lss z0 .k) <| .q 0 rfl <| .g rfl rfl (.b 0 rfl) (fun _ => op_move z5) <| .g rfl rfl (.b 1 rfl) (fun _ => op_field fld27_1 z4) <| .g rfl rfl (.b 2 rfl) (fun hc => op_loadT (R := (rSl rSapi_Kind)) (u := (x_).Kinds) tok23 (.cond z0 hc) rfl) <| .g rfl rfl (.b 3 rfl) (fun hc => op_len ud23 (.cond z0 hc)) <| .g rfl rfl (.b 4 rfl) (fun hc => op_geq (.cond z3 hc) (.cond z0 hc)) <| .o (op_or z5 (fun hp => (.cond z0 (beqF hp)))) <| .q 0 rfl <| .g rfl rfl (.b 0 rfl) (fun _ => op_move z13) <| .g rfl rfl (.b 1 rfl) (fun hc => op_lss (.cond z0 hc) .k) <| .o (op_or z2 (fun hp => (.cond z0 (beqF hp)))) <| .q 0 rfl <| .g rfl rfl (.b 0 rfl) (fun _ => op_move z17) <| .g rfl rfl (.b 1 rfl) (fun _ => op_field fld27_1 z15) <| .g rfl rfl (.b 2 rfl) (fun hc => op_loadT (R := (rSl rSapi_Kind)) (u := (x_).Kinds) tok23 (.cond z0 hc) rfl) <| .g rfl rfl (.b 3 rfl) (fun _ => op_move z19) <| .g rfl rfl (.b 4 rfl) (fun hc => op_index ud23 tok55 (.cond z1 hc) (.cond z0 hc) (opt_t ht26 hc)) <| .g rfl rfl (.b 5 rfl) (fun hc => op_field fld55_3 (.cond z0 hc)) <| .g rfl rfl (.b 6 rfl) (fun hc => op_loadT (R := (rSl rSapi_Field)) (u := (t26).Fields) tok53 (.cond z0 hc) rfl) <| .g rfl rfl (.b 7 rfl) (fun hc => op_len ud53 (.cond z0 hc)) <| .g rfl rfl (.b 8 rfl) (fun hc => op_geq (.cond z7 hc) (.cond z0 hc)) <| .o (op_or z9 (fun hp => (.cond z0 (beqF hp)))) <| .n) fun n1 a w hst => ?_
 replace hst := hst.to [23,24,25,26,27] [_,_,_,_,_] [_] rfl rfl
 refine wt hst (fun b7 => ?_) (fun b7 => ?_)
 ·replace h := ite_t b7 h
  refine sr mixed [v0 (box (rSapi_Field.cs zz0) (n0 1))] hst (fun _ => .p (T := rSapi_Field.ty zz0) rfl (op_build ud61 pl61 zv61 zc61 (.nil _)) <| .e [] [0] [1] rfl rfl rfl rfl (op_storeB (R := rSapi_Field) (a := zz0) tok61 z3 z0 (leb rfl)) <| .o (op_assign .k) <| .n) fun n2 a w hst => ?_
  replace hst := hst.to [1,4] [_,_] [_] rfl rfl
  refine wp_ret ?_
  obtain rfl := sj h
  exact ret_st undef [] hpl hst rfl (.cell (R := rSapi_Field) (u := zz0) tok61 z1 0 rfl rfl (.tmp z0 .nil)) rfl rfl rfl
 ·replace h := ite_f b7 h
  refine wp_skip ?_
  refine hK3 _ _ ?_
  try clear hK3 K3
  obtain ⟨t36,ht36,h⟩ := bind_some h
  obtain ⟨t40,ht40,h⟩ := bind_some h
  refine sr mixed [v0 (box (rSapi_Field.cs t40) (n0 1))] hst (fun _ => .o (op_field fld27_1 z1) <| .o (op_loadT (R := (rSl rSapi_Kind)) (u := (x_).Kinds) tok23 z0 rfl) <| .q 5 rfl <| .o (op_index ud23 tok55 z1 z0 ht36) <| .o (op_field fld55_3 z0) <| .o (op_loadT (R := (rSl rSapi_Field)) (u := (t36).Fields) tok53 z0 rfl) <| .q 10 rfl <| .o (op_index ud53 tok61 z1 z0 ht40) <| .o (op_load tok61 z0) <| .e [] [0] [1] rfl rfl rfl rfl (op_storeB (R := rSapi_Field) (a := t40) tok61 z11 z0 (leb rfl)) <| .o (op_assign .k) <| .n) fun n3 a w hst => ?_
  replace hst := hst.to [9,12] [_,_] [_] rfl rfl
  refine wp_ret ?_
  obtain rfl := sj h
  exact ret_st undef [] hpl hst rfl (.cell (R := rSapi_Field) (u := t40) tok61 z1 0 rfl rfl (.tmp z0 .nil)) rfl rfl rfl

/- diorama/typing.rule -/
noncomputable def ftyping_rule (x_ : Sapi_Schema) (i_ : Int) : Option (Int) := (idx (x_).Rules i_).bind fun t17 => (sub (x_).Rules (0:Int) i_).bind fun t22 => (fslices_ContainsFunc_Rule t22 (fun x0 => ftyping_ruleq1 x0 t17)).bind fun t24 => (ftyping_Kind x_ (t17).Kind).bind fun t28 => (tailrec (fun (s9 : Int × Bool × Bool) => ((if (decide (s9.1 < ([(t17).A,(t17).B].length : Int))) = true then ((idx [(t17).A,(t17).B] s9.1).bind fun t39 => (if ((t39 == ([] : Str)) || (decide (t28 < (0:Int)))) = true then (some (s9.2.1,s9.2.2)) else (idx (x_).Kinds t28).bind fun t53 => (ftyping_Field t53 t39).bind fun t56 => (ftyping_at x_ t28 t56).bind fun t57 => (some ((s9.2.1 || (!t57.2)),(s9.2.2 || (((t57.1).Kind != (2:Int)) && ((t57.1).Kind != (4:Int)))))))).bind fun (p55 : Bool × Bool) => (some (.inl ((IntKind.i64.wrap (s9.1 + (1:Int))),p55.1,p55.2))) else (some (.inr (s9.2.1,s9.2.2)))) : Option ((Int × Bool × Bool) ⊕ ((Bool × Bool))))) ((0:Int),(decide (t28 < (0:Int))),false)).bind fun (p49 : (Bool × Bool)) => (ftyping_first [(Styping_fault.mk t24 (7:Int)),(Styping_fault.mk p49.1 (12:Int)),(Styping_fault.mk p49.2 (13:Int)),(Styping_fault.mk ((t17).A == (t17).B) (1:Int))]).bind fun t90 => (some t90)
set_option maxRecDepth 100000 in
set_option maxHeartbeats 4000000 in
theorem typing_rule_ok {x_ : Sapi_Schema} {i_ : Int} {r : Int} (h : ftyping_rule x_ i_ = some r) : FnOk Tryz.prog 69 [rSapi_Schema.ty x_,ti i_] [] (fun _ => []) (fun _ => ti r) := by
 unfold ftyping_rule at h
 refine FnOk.enter Tryz.func69 rfl Tryz.ntmps69 (leb rfl) (fun M0 M w0 a hpl hst => ?_)
 replace hst : St M w0 91 [(0,rSapi_Schema.ty x_),(1,ti i_)] [] a w0 := hst
 refine sr mixed [] hst (fun _ => .o (op_boxR (R := rSapi_Schema) (u := x_) z0) <| .o (op_assign .k) <| .n) fun n0 a w hst => ?_
 replace hst := hst.to [0,3] [_,_] [] rfl rfl
 obtain ⟨t17,ht17,h⟩ := bind_some h
 refine sr mixed [v1 5 (fun v0 => box (rSapi_Rule.cs zz3) v0),v1 5 (fun v0 => box (rSapi_Rule.cs t17) v0)] hst (fun _ => .o (op_field fld27_3 z0) <| .o (op_loadT (R := (rSl rSapi_Rule)) (u := (x_).Rules) tok25 z0 rfl) <| .q 3 rfl <| .o (op_index ud25 tok84 z1 z0 ht17) <| .o (op_load tok84 z0) <| .m [] [0] rfl rfl rfl (op_alloc (R := rSapi_Rule) (a := zz3) tok84 zok84) <| .e [] [0] [1] rfl rfl rfl rfl (op_storeB (R := rSapi_Rule) (a := t17) tok84 z0 z1 (leb rfl)) <| .n) fun n1 a w hst => ?_
 replace hst : St _ _ _ [_,_,_] [] _ _ := (((hst.pick [5,6,7]).shareB 0 rfl).add 0 rfl (fun _ _ _ h => h.2)).pick [0,3,4]
 obtain ⟨t22,ht22,h⟩ := bind_some h
 obtain ⟨t24,ht24,h⟩ := bind_some h
 refine sr mixed [] hst (fun _ => .o (op_field fld27_3 z1) <| .o (op_loadT (R := (rSl rSapi_Rule)) (u := (x_).Rules) tok25 z0 rfl) <| .q 4 rfl <| .o (op_slice ud25 tok84 z1 (.no _) (.op z0) ht22) <| .o (op_clo (.cons z4 <| .nil)) <| .o (op_callF call108 (slices_ContainsFunc_Rule_ok ht24) (.cons (.of z1) <| .cons (.of (Fct.weak z0 (tfn_of call109 (fun _ _ hq => typing_ruleq1_ok hq)))) <| .nil)) <| .o (op_assign z0) <| .n) fun n2 a w hst => ?_
 replace hst := hst.to [6,7,8] [_,_,_] [] rfl rfl
 obtain ⟨t28,ht28,h⟩ := bind_some h
 refine sr mixed [] hst (fun _ => .o (op_load tok27 z2) <| .o (op_field fld84_1 z2) <| .o (op_loadT (R := rS) (u := (t17).Kind) tok9 z0 rfl) <| .o (op_callF call38 (typing_Kind_ok ht28) (.cons (.of z2) <| .cons (.of z0) <| .nil)) <| .o (op_assign z0) <| .n) fun n3 a w hst => ?_
 replace hst := hst.to [4,5,6,7] [_,_,_,_] [] rfl rfl
 refine sr mixed [] hst (fun _ => .q 0 rfl <| .o (op_lss z0 .k) <| .o (op_assign z0) <| .o (op_assign .k) <| .n) fun n4 a w hst => ?_
 replace hst := hst.to [2,3,4,5,6,7] [_,_,_,_,_,_] [] rfl rfl
 refine wp_seq_k (fun K7 hK7 => ?_)
 refine sr mixed [] hst (fun _ => .o (op_field fld84_2 z4) <| .o (op_loadT (R := rS) (u := (t17).A) tok9 z0 rfl) <| .o (op_field fld84_3 z6) <| .o (op_loadT (R := rS) (u := (t17).B) tok9 z0 rfl) <| .o (op_buildSl (R := rS) (us := [(t17).A,(t17).B]) ud32 tok9 (.cons z2 <| .cons z0 <| .nil _) rfl (leb rfl)) <| .o (op_len ud32 z0) <| .o (op_move .k) <| .n) fun n5 a w hst => ?_
 replace hst := hst.to [4,5,6,7,8,9,10,11,12] [_,_,_,_,_,_,_,_,_] [] rfl rfl
 obtain ⟨e10,he10,h⟩ := bind_some h
 have hJp49 : ∀ (p49 : Bool × Bool) a w,p49 = e10 → St M w0 91 [(8,tb p49.1),(9,tb p49.2),(6,tb t24),(5,tptr (rSapi_Rule.cs t17))] [] a w → K7 a w := by
  intro p49 a w he hst
  subst he
  refine hK7 _ _ ?_
  try clear hK7 K7
  obtain ⟨t90,ht90,h⟩ := bind_some h
  refine sr mixed [] hst (fun _ => .q 2 rfl <| .p (T := rStyping_fault.ty (Styping_fault.mk t24 (7:Int))) rfl (op_build ud125 pl125 zv125 zc125 (.cons (R := rBool) (u := t24) rfl z0 (leb rfl) <| .cons (R := rI) (u := (7:Int)) rfl .k (leb rfl) <| .nil _)) <| .q 2 rfl <| .p (T := rStyping_fault.ty (Styping_fault.mk p49.1 (12:Int))) rfl (op_build ud125 pl125 zv125 zc125 (.cons (R := rBool) (u := p49.1) rfl z0 (leb rfl) <| .cons (R := rI) (u := (12:Int)) rfl .k (leb rfl) <| .nil _)) <| .q 5 rfl <| .p (T := rStyping_fault.ty (Styping_fault.mk p49.2 (13:Int))) rfl (op_build ud125 pl125 zv125 zc125 (.cons (R := rBool) (u := p49.2) rfl z0 (leb rfl) <| .cons (R := rI) (u := (13:Int)) rfl .k (leb rfl) <| .nil _)) <| .o (op_field fld84_2 z9) <| .o (op_loadT (R := rS) (u := (t17).A) tok9 z0 rfl) <| .o (op_field fld84_3 z11) <| .o (op_loadT (R := rS) (u := (t17).B) tok9 z0 rfl) <| .o (op_eqlS z2 z0) <| .p (T := rStyping_fault.ty (Styping_fault.mk ((t17).A == (t17).B) (1:Int))) rfl (op_build ud125 pl125 zv125 zc125 (.cons (R := rBool) (u := ((t17).A == (t17).B)) rfl z0 (leb rfl) <| .cons (R := rI) (u := (1:Int)) rfl .k (leb rfl) <| .nil _)) <| .o (op_buildSl (R := rStyping_fault) (us := [(Styping_fault.mk t24 (7:Int)),(Styping_fault.mk p49.1 (12:Int)),(Styping_fault.mk p49.2 (13:Int)),(Styping_fault.mk ((t17).A == (t17).B) (1:Int))]) ud166 tok125 (.cons z10 <| .cons z8 <| .cons z6 <| .cons z0 <| .nil _) rfl (leb rfl)) <| .o (op_callF call66 (typing_first_ok ht90) (.cons (.of z0) <| .nil)) <| .o (op_assign z0) <| .n) fun n13 a w hst => ?_
  replace hst := hst.to [14] [_] [] rfl rfl
  refine wp_ret ?_
  obtain rfl := sj h
  exact ret_st undef [] hpl hst rfl (.tmp z0 .nil) rfl rfl rfl
 refine wp_block ?_
 refine wp_loopK _ (fun (s9 : Int × Bool × Bool) a w => St M w0 91 [(35,tsl rS [(t17).A,(t17).B]),(36,ti ([(t17).A,(t17).B].length : Int)),(37,ti s9.1),(8,tb s9.2.1),(9,tb s9.2.2),(7,ti t28),(6,tb t24),(5,tptr (rSapi_Rule.cs t17)),(2,tptr (rSapi_Schema.cs x_))] [] a w) _ _ he10 (hst.pick [0,1,2,3,4,5,6,7,8]) ?_
 clear h
 intro s9 o a w K51 hI h ho hK51
 have hst := hI
 clear hI
 refine sr mixed [] hst (fun _ => .o (op_lss z2 z1) <| .n) fun n6 a w hst => ?_
 replace hst := hst.to [0,1,2,3,4,5,6,7,8,9] [_,_,_,_,_,_,_,_,_,_] [] rfl rfl
 refine wp_seq_k (fun K53 hK53 => ?_)
 refine wt hst (fun b70 => ?_) (fun b70 => ?_)
 ·replace h := ite_t b70 h
  refine wp_skip ?_
  refine hK53 _ _ ?_
  try clear hK53 K53
  refine wp_seq_k (fun K54 hK54 => ?_)
  obtain ⟨p55,hp55,h⟩ := bind_some h
  have hJp55 : ∀ a w,St M w0 91 [(35,tsl rS [(t17).A,(t17).B]),(36,ti ([(t17).A,(t17).B].length : Int)),(37,ti s9.1),(8,tb p55.1),(9,tb p55.2),(7,ti t28),(6,tb t24),(5,tptr (rSapi_Rule.cs t17)),(2,tptr (rSapi_Schema.cs x_))] [] a w → K54 a w := by
   intro a w hst
   refine hK54 _ _ ?_
   try clear hK54 K54
   refine wr mixed [] hst (fun _ => .o (op_add z2 .k) <| .q 0 rfl <| .n) fun n12 a w hst => ?_
   replace hst := hst.to [1,2,3,4,5,6,7,8,9] [_,_,_,_,_,_,_,_,_] [] rfl rfl
   exact hK51 _ _ _ (sj h).symm (hst.pick [1,2,0,3,4,5,6,7,8])
  replace h := hp55
  clear hp55
  refine wp_block ?_
  obtain ⟨t39,ht39,h⟩ := bind_some h
  refine sr mixed [] hst (fun _ => .o (op_index ud32 tok9 z1 z3 ht39) <| .o (op_load tok9 z0) <| .o (op_assign z0) <| .n) fun n7 a w hst => ?_
  replace hst := hst.to [2,4,5,6,7,8,9,10,11,12] [_,_,_,_,_,_,_,_,_,_] [] rfl rfl
  refine wp_seq_k (fun K64 hK64 => ?_)
  refine sr mixed [] hst (fun _ => .q 0 rfl <| .o (op_eqlS z0 .k) <| .q 0 rfl <| .g rfl rfl (.b 0 rfl) (fun _ => op_move z9) <| .g rfl rfl (.b 1 rfl) (fun hc => op_lss (.cond z0 hc) .k) <| .o (op_or z2 (fun hp => (.cond z0 (beqF hp)))) <| .n) fun n8 a w hst => ?_
  replace hst := hst.to [5,6,7,8,9,10,11,12,13,14,15] [_,_,_,_,_,_,_,_,_,_,_] [] rfl rfl
  refine wt hst (fun b69 => ?_) (fun b69 => ?_)
  ·replace h := ite_t b69 h
   refine wp_exit ?_
   obtain rfl := sj h
   exact hJp55 _ _ (hst.pick [2,3,4,5,6,7,8,9,10])
  ·replace h := ite_f b69 h
   refine wp_skip ?_
   refine hK64 _ _ ?_
   try clear hK64 K64
   obtain ⟨t53,ht53,h⟩ := bind_some h
   obtain ⟨t56,ht56,h⟩ := bind_some h
   obtain ⟨t57,ht57,h⟩ := bind_some h
   refine sr mixed [v1 13 (fun v0 => box (rSapi_Field.cs zz0) v0),v1 13 (fun v0 => box (rSapi_Field.cs t57.1) v0)] hst (fun _ => .o (op_load tok27 z10) <| .q 8 rfl <| .o (op_field fld27_1 z12) <| .o (op_loadT (R := (rSl rSapi_Kind)) (u := (x_).Kinds) tok23 z0 rfl) <| .q 11 rfl <| .o (op_index ud23 tok55 z1 z0 ht53) <| .o (op_load tok55 z0) <| .q 8 rfl <| .o (op_callF call68 (typing_Field_ok ht56) (.cons (.of z1) <| .cons (.of z0) <| .nil)) <| .o (op_callF call110 (typing_at_ok ht57) (.cons (.of z8) <| .cons (.of z7) <| .cons (.of z0) <| .nil)) <| .q 0 rfl <| .o (op_extract z0 rfl) <| .o (op_extract z1 rfl) <| .m [] [0] rfl rfl rfl (op_alloc (R := rSapi_Field) (a := zz0) tok61 zok61) <| .e [] [0] [1] rfl rfl rfl rfl (op_storeB (R := rSapi_Field) (a := t57.1) tok61 z0 z2 (leb rfl)) <| .o (op_assign z1) <| .n) fun n9 a w hst => ?_
   replace hst : St _ _ _ [_,_,_,_,_,_,_,_,_,_,_] [] _ _ := (((hst.pick [13,14,17,18,19,20,21,22,23,24,25]).shareB 0 rfl).add 0 rfl (fun _ _ _ h => h.2)).pick [0,3,4,5,6,7,8,9,10,11,12]
   refine sr mixed [] hst (fun _ => .q 5 rfl <| .q 0 rfl <| .g rfl rfl (.b 0 rfl) (fun _ => op_move z3) <| .g rfl rfl (.b 1 rfl) (fun hc => op_not (.cond z0 hc)) <| .o (op_or z2 (fun hp => (.cond z0 (beqF hp)))) <| .o (op_assign z0) <| .n) fun n10 a w hst => ?_
   replace hst := hst.to [5,6,8,9,10,11,12,13,14,15] [_,_,_,_,_,_,_,_,_,_] [] rfl rfl
   refine wr mixed [] hst (fun _ => .q 5 rfl <| .q 0 rfl <| .g rfl rfl (.b 0 rfl) (fun _ => op_field fld61_3 z3) <| .g rfl rfl (.b 1 rfl) (fun hc => op_loadT (R := rI) (u := (t57.1).Kind) tok3 (.cond z0 hc) rfl) <| .g rfl rfl (.b 2 rfl) (fun hc => op_neq (.cond z0 hc) .k) <| .g rfl rfl (.b 3 rfl) (fun hc => op_move (.cond z0 hc)) <| .g rfl rfl (.c 0 rfl) (fun _ => op_field fld61_3 z7) <| .g rfl rfl (.c 1 rfl) (fun hc => op_loadT (R := rI) (u := (t57.1).Kind) tok3 (.cond z0 hc) rfl) <| .g rfl rfl (.c 2 rfl) (fun hc => op_neq (.cond z0 hc) .k) <| .g rfl rfl (.b 7 rfl) (fun hc => op_and (.cond z3 hc) (fun hp => (.cond z0 (band_mk hc (beqT hp))))) <| .o (op_or z8 (fun hp => (.cond z0 (beqF hp)))) <| .o (op_assign z0) <| .n) fun n11 a w hst => ?_
   replace hst := hst.to [11,12,14,15,16,17,18,19,20] [_,_,_,_,_,_,_,_,_] [] rfl rfl
   obtain rfl := sj h
   exact hJp55 _ _ (hst.pick [2,3,4,1,0,5,6,7,8])
 ·replace h := ite_f b70 h
  refine wp_exit ?_
  exact hJp49 _ _ _ (ho _ (sj h).symm) (hst.pick [4,5,7,8])

/- diorama/typing.checks$1 -/
noncomputable def ftyping_checksq1 (s_ : Styping_spot) : Option (Int) := (ftyping_first [(Styping_fault.mk (decide ((s_).field > (0:Int))) (13:Int))]).bind fun t8 => (some t8)
set_option maxRecDepth 100000 in
set_option maxHeartbeats 4000000 in
theorem typing_checksq1_ok {s_ : Styping_spot} {r : Int} (h : ftyping_checksq1 s_ = some r) : FnOk Tryz.prog 207 [rStyping_spot.ty s_] [] (fun _ => []) (fun _ => ti r) := by
 unfold ftyping_checksq1 at h
 refine FnOk.enter Tryz.func207 rfl Tryz.ntmps207 (leb rfl) (fun M0 M w0 a hpl hst => ?_)
 replace hst : St M w0 9 [(0,rStyping_spot.ty s_)] [] a w0 := hst
 refine sr mixed [] hst (fun _ => .o (op_boxR (R := rStyping_spot) (u := s_) z0) <| .o (op_assign .k) <| .n) fun n0 a w hst => ?_
 replace hst := hst.to [0] [_] [] rfl rfl
 obtain ⟨t8,ht8,h⟩ := bind_some h
 refine sr mixed [] hst (fun _ => .o (op_field fld133_2 z0) <| .o (op_loadT (R := rI) (u := (s_).field) tok3 z0 rfl) <| .o (op_gtr z0 .k) <| .p (T := rStyping_fault.ty (Styping_fault.mk (decide ((s_).field > (0:Int))) (13:Int))) rfl (op_build ud125 pl125 zv125 zc125 (.cons (R := rBool) (u := (decide ((s_).field > (0:Int)))) rfl z0 (leb rfl) <| .cons (R := rI) (u := (13:Int)) rfl .k (leb rfl) <| .nil _)) <| .o (op_buildSl (R := rStyping_fault) (us := [(Styping_fault.mk (decide ((s_).field > (0:Int))) (13:Int))]) ud166 tok125 (.cons z0 <| .nil _) rfl (leb rfl)) <| .o (op_callF call66 (typing_first_ok ht8) (.cons (.of z0) <| .nil)) <| .o (op_assign z0) <| .n) fun n1 a w hst => ?_
 replace hst := hst.to [6] [_] [] rfl rfl
 refine wp_ret ?_
 obtain rfl := sj h
 exact ret_st undef [] hpl hst rfl (.tmp z0 .nil) rfl rfl rfl

end Go.Proofs.YtcdccjagknlmpaaGreatDoor
