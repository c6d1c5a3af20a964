/- Go functions as Lean functions, and the proofs that they compute them, written by a program. No condition. -/
import Derived.Test.YthdfmpocknmleaaGreatDoorGenE
namespace Go.Proofs.YthdfmpocknmleaaGreatDoor
open Go.Sim

/- diorama/schema.source -/
noncomputable def fschema_source (x_ : Sapi_Schema) : Option (Str) := (fschema_line ([115,99,104,101,109,97] : Str) [(AnyV.int (x_).Version)]).bind fun t21 => (fBWriteString ([] : Str) t21).bind fun t22 => (tailrec (fun (s7 : Int × Str) => ((if (decide (s7.1 < ((x_).Kinds.length : Int))) = true then (idx (x_).Kinds s7.1).bind fun t28 => (fschema_line ([107,105,110,100] : Str) [(AnyV.str (t28).Name),(AnyV.int (t28).Lo),(AnyV.int (t28).Hi)]).bind fun t40 => (fBWriteString s7.2 t40).bind fun t41 => (tailrec (fun (s290 : Int × Str) => ((if (decide (s290.1 < ((t28).Fields.length : Int))) = true then (idx (t28).Fields s290.1).bind fun t47 => (fschema_field t47).bind fun t50 => (fBWriteString s290.2 t50).bind fun t51 => (some (.inl ((IntKind.i64.wrap (s290.1 + (1:Int))),t51))) else (some (.inr s290.2))) : Option ((Int × Str) ⊕ ((Str))))) ((0:Int),t41)).bind fun (p305 : (Str)) => (some (.inl ((IntKind.i64.wrap (s7.1 + (1:Int))),p305))) else (some (.inr s7.2))) : Option ((Int × Str) ⊕ ((Str))))) ((0:Int),t22)).bind fun (p74 : (Str)) => (tailrec (fun (s78 : Int × Str) => ((if (decide (s78.1 < ((x_).Lives.length : Int))) = true then (idx (x_).Lives s78.1).bind fun t59 => (tailrec (fun (s234 : Int × List AnyV) => ((if (decide (s234.1 < ((t59).States.length : Int))) = true then (idx (t59).States s234.1).bind fun t74 => (rm (s234.2.length + [(AnyV.str t74)].length)).bind fun _ => (some (.inl ((IntKind.i64.wrap (s234.1 + (1:Int))),(s234.2 ++ [(AnyV.str t74)])))) else (some (.inr s234.2))) : Option ((Int × List AnyV) ⊕ ((List AnyV))))) ((0:Int),[(AnyV.str (t59).Name),(AnyV.int ((t59).States.length : Int))])).bind fun (p247 : (List AnyV)) => (fschema_line ([108,105,102,101] : Str) p247).bind fun t83 => (fBWriteString s78.2 t83).bind fun t84 => (tailrec (fun (s251 : Int × Str) => ((if (decide (s251.1 < ((t59).Moves.length : Int))) = true then (idx (t59).Moves s251.1).bind fun t90 => (fschema_line ([109,111,118,101] : Str) [(AnyV.int (t90).a0),(AnyV.int (t90).a1)]).bind fun t99 => (fBWriteString s251.2 t99).bind fun t100 => (some (.inl ((IntKind.i64.wrap (s251.1 + (1:Int))),t100))) else (some (.inr s251.2))) : Option ((Int × Str) ⊕ ((Str))))) ((0:Int),t84)).bind fun (p266 : (Str)) => (some (.inl ((IntKind.i64.wrap (s78.1 + (1:Int))),p266))) else (some (.inr s78.2))) : Option ((Int × Str) ⊕ ((Str))))) ((0:Int),p74)).bind fun (p195 : (Str)) => (tailrec (fun (s199 : Int × Str) => ((if (decide (s199.1 < ((x_).Rules.length : Int))) = true then (idx (x_).Rules s199.1).bind fun t108 => (fschema_named (t108).A).bind fun t118 => (fschema_named (t108).B).bind fun t122 => (fschema_line ([114,117,108,101] : Str) [(AnyV.str (t108).Name),(AnyV.str (t108).Kind),(AnyV.str t118),(AnyV.str t122),(AnyV.int (t108).N)]).bind fun t128 => (fBWriteString s199.2 t128).bind fun t129 => (some (.inl ((IntKind.i64.wrap (s199.1 + (1:Int))),t129))) else (some (.inr s199.2))) : Option ((Int × Str) ⊕ ((Str))))) ((0:Int),p195)).bind fun (p214 : (Str)) => (fBString p214).bind fun t131 => (some t131)
set_option maxRecDepth 100000 in
set_option maxHeartbeats 4000000 in
theorem schema_source_ok {x_ : Sapi_Schema} {r : Str} (h : fschema_source x_ = some r) : FnOk Tryz.prog 80 [rSapi_Schema.ty x_] [glo] (fun _ => []) (fun _ => tv (.string (sB r))) := by
 unfold fschema_source at h
 refine FnOk.enter Tryz.func80 rfl Tryz.ntmps80 (leb rfl) (fun M0 M w0 a hpl hst => ?_)
 replace hst : St M w0 132 [(0,rSapi_Schema.ty x_)] [glo] a w0 := hst
 refine wp_seq_k (fun K1 hK1 => ?_)
 refine wp_reg mixed [] hst (fun _ => .p rfl (op_boxR (R := rSapi_Schema) (u := x_) (.t 0 rfl)) <| .p rfl (op_assign .k) <| .nil _ _) (by kernel_rfl) (fun n0 a w hst => ?_)
 replace hst : St M w0 132 [(1,tptr (rSapi_Schema.cs x_))] [glo] a w := (hst.pick [0])
 refine hK1 _ _ ?_
 try clear hK1 K1
 refine wp_seq_k (fun K2 hK2 => ?_)
 refine wp_reg mixed [v1 0 (fun v0 => bld ([] : Str) v0 nilV)] hst (fun _ => .m [] [1] rfl rfl rfl (op_allocB bInfo) <| .nil _ _) (by kernel_rfl) (fun n1 a w hst => ?_)
 replace hst : St M w0 132 [(3,tv (n1 0)),(1,tptr (rSapi_Schema.cs x_))] [glo,bld ([] : Str) (n1 0) nilV] a w := (hst.pick [0,1])
 refine hK2 _ _ ?_
 try clear hK2 K2
 refine wp_seq_k (fun K4 hK4 => ?_)
 obtain ⟨t21,ht21,h⟩ := bind_some h
 obtain ⟨t22,ht22,h⟩ := bind_some h
 refine wp_reg mixed [v1 5 (fun v0 => bld t22 (n1 0) v0)] hst (fun _ => .p rfl (op_field fld34_0 (.t 1 rfl)) <| .p rfl (op_loadT (R := rI) (u := (x_).Version) tok3 (.t 0 rfl) rfl) <| .p rfl (op_mkI Tryz.underlying3 (.t 0 rfl)) <| .p rfl (op_buildSl (R := (rAny 3 9)) (us := [(AnyV.int (x_).Version)]) Tryz.underlying158 tok20 (.cons (.t 0 rfl) <| .nil _) rfl (leb rfl)) <| .u [0] rfl rfl ((op_callF call115 (schema_line_ok ht21) (.cons (.of .k) <| .cons (.of (.t 0 rfl)) <| .nil)).glo) <| .e [] [1] [2] rfl rfl rfl rfl (op_callF call114 (BWriteString_ok ht22) (.cons (.of (.t 5 rfl)) <| .cons (.of (.t 0 rfl)) <| .nil)) <| .nil _ _) (by kernel_rfl) (fun n2 a w hst => ?_)
 replace hst : St M w0 132 [(3,tv (n1 0)),(1,tptr (rSapi_Schema.cs x_))] [glo,bld t22 (n1 0) (n2 5)] a w := (hst.pick [6,7])
 refine hK4 _ _ ?_
 try clear hK4 K4
 refine wp_seq_k (fun K5 hK5 => ?_)
 refine wp_seq_k (fun K6 hK6 => ?_)
 refine wp_reg mixed [] hst (fun _ => .p rfl (op_field fld34_1 (.t 1 rfl)) <| .p rfl (op_loadT (R := (rSl rSapi_Kind)) (u := (x_).Kinds) tok30 (.t 0 rfl) rfl) <| .p rfl (op_len Tryz.underlying30 (.t 0 rfl)) <| .p rfl (op_move .k) <| .nil _ _) (by kernel_rfl) (fun n3 a w hst => ?_)
 replace hst : St M w0 132 [(24,tsl rSapi_Kind (x_).Kinds),(25,ti ((x_).Kinds.length : Int)),(26,ti (0:Int)),(3,tv (n1 0)),(1,tptr (rSapi_Schema.cs x_))] [glo,bld t22 (n1 0) (n2 5)] a w := (hst.pick [1,2,3,4,5])
 refine hK6 _ _ ?_
 try clear hK6 K6
 obtain ⟨e8,he8,h⟩ := bind_some h
 have hJp74 : ∀ (p74 : Str) (v75 : Value) a w,p74 = e8 → St M w0 132 [(3,tv (n1 0)),(1,tptr (rSapi_Schema.cs x_))] [glo,bld p74 (n1 0) v75] a w → K5 a w := by
  intro p74 v75 a w he hst
  subst he
  refine hK5 _ _ ?_
  try clear hK5 K5
  refine wp_seq_k (fun K76 hK76 => ?_)
  refine wp_seq_k (fun K77 hK77 => ?_)
  refine wp_reg mixed [] hst (fun _ => .p rfl (op_field fld34_2 (.t 1 rfl)) <| .p rfl (op_loadT (R := (rSl rSapi_Life)) (u := (x_).Lives) tok31 (.t 0 rfl) rfl) <| .p rfl (op_len Tryz.underlying31 (.t 0 rfl)) <| .p rfl (op_move .k) <| .nil _ _) (by kernel_rfl) (fun n13 a w hst => ?_)
  replace hst : St M w0 132 [(55,tsl rSapi_Life (x_).Lives),(56,ti ((x_).Lives.length : Int)),(57,ti (0:Int)),(3,tv (n1 0)),(1,tptr (rSapi_Schema.cs x_))] [glo,bld p74 (n1 0) v75] a w := (hst.pick [1,2,3,4,5])
  refine hK77 _ _ ?_
  try clear hK77 K77
  obtain ⟨e79,he79,h⟩ := bind_some h
  have hJp195 : ∀ (p195 : Str) (v196 : Value) a w,p195 = e79 → St M w0 132 [(3,tv (n1 0)),(1,tptr (rSapi_Schema.cs x_))] [glo,bld p195 (n1 0) v196] a w → K76 a w := by
   intro p195 v196 a w he hst
   subst he
   refine hK76 _ _ ?_
   try clear hK76 K76
   refine wp_seq_k (fun K197 hK197 => ?_)
   refine wp_seq_k (fun K198 hK198 => ?_)
   refine wp_reg mixed [] hst (fun _ => .p rfl (op_field fld34_3 (.t 1 rfl)) <| .p rfl (op_loadT (R := (rSl rSapi_Rule)) (u := (x_).Rules) tok32 (.t 0 rfl) rfl) <| .p rfl (op_len Tryz.underlying32 (.t 0 rfl)) <| .p rfl (op_move .k) <| .nil _ _) (by kernel_rfl) (fun n29 a w hst => ?_)
   replace hst : St M w0 132 [(104,tsl rSapi_Rule (x_).Rules),(105,ti ((x_).Rules.length : Int)),(106,ti (0:Int)),(3,tv (n1 0))] [glo,bld p195 (n1 0) v196] a w := (hst.pick [1,2,3,4])
   refine hK198 _ _ ?_
   try clear hK198 K198
   obtain ⟨e200,he200,h⟩ := bind_some h
   have hJp214 : ∀ (p214 : Str) (v215 : Value) a w,p214 = e200 → St M w0 132 [(3,tv (n1 0))] [glo,bld p214 (n1 0) v215] a w → K197 a w := by
    intro p214 v215 a w he hst
    subst he
    refine hK197 _ _ ?_
    try clear hK197 K197
    refine wp_seq_k (fun K216 hK216 => ?_)
    obtain ⟨t131,ht131,h⟩ := bind_some h
    refine wp_reg mixed [] hst (fun _ => .e [] [1] [] rfl rfl rfl rfl (op_callF call118 (BString_ok ht131) (.cons (.of (.t 0 rfl)) <| .nil)) <| .p rfl (op_assign (.t 0 rfl)) <| .nil _ _) (by kernel_rfl) (fun n34 a w hst => ?_)
    replace hst : St M w0 132 [(2,tv (.string (sB t131)))] [glo] a w := (hst.pick [1])
    refine hK216 _ _ ?_
    try clear hK216 K216
    refine wp_ret ?_
    obtain rfl := sj h
    exact ret_st undef [] hpl hst rfl (.tmp (.t 0 rfl) .nil) rfl rfl rfl
   refine wp_block ?_
   refine wp_loopK _ (fun (s199 : Int × Str) a w => ∃ v207 : Value,St M w0 132 [(104,tsl rSapi_Rule (x_).Rules),(105,ti ((x_).Rules.length : Int)),(106,ti s199.1),(3,tv (n1 0))] [glo,bld s199.2 (n1 0) v207] a w) _ _ he200 ⟨v196,hst.pick [0,1,2,3]⟩ ?_
   clear h
   intro s199 o a w K217 hI h ho hK217
   obtain ⟨v207,hst⟩ := hI
   refine wp_seq_k (fun K218 hK218 => ?_)
   refine wp_reg mixed [] hst (fun _ => .p rfl (op_lss (.t 2 rfl) (.t 1 rfl)) <| .nil _ _) (by kernel_rfl) (fun n30 a w hst => ?_)
   replace hst : St M w0 132 [(107,tb (decide (s199.1 < ((x_).Rules.length : Int)))),(104,tsl rSapi_Rule (x_).Rules),(105,ti ((x_).Rules.length : Int)),(106,ti s199.1),(3,tv (n1 0))] [glo,bld s199.2 (n1 0) v207] a w := (hst.pick [0,1,2,3,4])
   refine hK218 _ _ ?_
   try clear hK218 K218
   refine wp_seq_k (fun K219 hK219 => ?_)
   refine wp_test 0 hst rfl (fun b223 => ?_) (fun b223 => ?_)
   ·replace h := ite_t b223 h
    refine wp_skip ?_
    refine hK219 _ _ ?_
    try clear hK219 K219
    refine wp_seq_k (fun K220 hK220 => ?_)
    refine wp_block ?_
    refine wp_seq_k (fun K221 hK221 => ?_)
    obtain ⟨t108,ht108,h⟩ := bind_some h
    refine wp_reg mixed [v1 2 (fun v0 => box (rSapi_Rule.cs (Sapi_Rule.mk ([] : Str) ([] : Str) ([] : Str) ([] : Str) (0:Int))) v0),v1 2 (fun v0 => box (rSapi_Rule.cs t108) v0)] hst (fun _ => .p rfl (op_index Tryz.underlying32 tok100 (.t 1 rfl) (.t 3 rfl) ht108) <| .p rfl (op_load tok100 (.t 0 rfl)) <| .m [] [2] rfl rfl rfl (op_alloc (R := rSapi_Rule) (a := (Sapi_Rule.mk ([] : Str) ([] : Str) ([] : Str) ([] : Str) (0:Int))) tok100 zok100) <| .e [] [2] [3] rfl rfl rfl rfl (op_storeB (R := rSapi_Rule) (a := t108) tok100 (.t 0 rfl) (.t 1 rfl) (leb rfl)) <| .nil _ _) (by kernel_rfl) (fun n31 a w hst => ?_)
    replace hst : St M w0 132 [(16,tptr (rSapi_Rule.cs t108)),(104,tsl rSapi_Rule (x_).Rules),(105,ti ((x_).Rules.length : Int)),(106,ti s199.1),(3,tv (n1 0))] [glo,bld s199.2 (n1 0) v207] a w := (((((hst.pick [2,4,5,6,7]).selA [2,0,1] rfl).shareB 0 rfl).add 0 rfl (fun _ _ _ h => h.2)).pick [0,3,4,5,6])
    refine hK221 _ _ ?_
    try clear hK221 K221
    obtain ⟨t118,ht118,h⟩ := bind_some h
    obtain ⟨t122,ht122,h⟩ := bind_some h
    obtain ⟨t128,ht128,h⟩ := bind_some h
    obtain ⟨t129,ht129,h⟩ := bind_some h
    refine wp_reg mixed [v1 19 (fun v0 => bld t129 (n1 0) v0)] hst (fun _ => .p rfl (op_field fld100_0 (.t 0 rfl)) <| .p rfl (op_loadT (R := rS) (u := (t108).Name) tok9 (.t 0 rfl) rfl) <| .p rfl (op_mkS Tryz.underlying9 (.t 0 rfl)) <| .p rfl (op_field fld100_1 (.t 3 rfl)) <| .p rfl (op_loadT (R := rS) (u := (t108).Kind) tok9 (.t 0 rfl) rfl) <| .p rfl (op_mkS Tryz.underlying9 (.t 0 rfl)) <| .p rfl (op_field fld100_2 (.t 6 rfl)) <| .p rfl (op_loadT (R := rS) (u := (t108).A) tok9 (.t 0 rfl) rfl) <| .p rfl (op_callF call117 (schema_named_ok ht118) (.cons (.of (.t 0 rfl)) <| .nil)) <| .p rfl (op_mkS Tryz.underlying9 (.t 0 rfl)) <| .p rfl (op_field fld100_3 (.t 10 rfl)) <| .p rfl (op_loadT (R := rS) (u := (t108).B) tok9 (.t 0 rfl) rfl) <| .p rfl (op_callF call117 (schema_named_ok ht122) (.cons (.of (.t 0 rfl)) <| .nil)) <| .p rfl (op_mkS Tryz.underlying9 (.t 0 rfl)) <| .p rfl (op_field fld100_4 (.t 14 rfl)) <| .p rfl (op_loadT (R := rI) (u := (t108).N) tok3 (.t 0 rfl) rfl) <| .p rfl (op_mkI Tryz.underlying3 (.t 0 rfl)) <| .p rfl (op_buildSl (R := (rAny 3 9)) (us := [(AnyV.str (t108).Name),(AnyV.str (t108).Kind),(AnyV.str t118),(AnyV.str t122),(AnyV.int (t108).N)]) Tryz.underlying158 tok20 (.cons (.t 14 rfl) <| .cons (.t 11 rfl) <| .cons (.t 7 rfl) <| .cons (.t 3 rfl) <| .cons (.t 0 rfl) <| .nil _) rfl (leb rfl)) <| .u [0] rfl rfl ((op_callF call115 (schema_line_ok ht128) (.cons (.of .k) <| .cons (.of (.t 0 rfl)) <| .nil)).glo) <| .e [] [1] [2] rfl rfl rfl rfl (op_callF call114 (BWriteString_ok ht129) (.cons (.of (.t 23 rfl)) <| .cons (.of (.t 0 rfl)) <| .nil)) <| .nil _ _) (by kernel_rfl) (fun n32 a w hst => ?_)
    replace hst : St M w0 132 [(104,tsl rSapi_Rule (x_).Rules),(105,ti ((x_).Rules.length : Int)),(106,ti s199.1),(3,tv (n1 0))] [glo,bld t129 (n1 0) (n32 19)] a w := (hst.pick [21,22,23,24])
    refine hK220 _ _ ?_
    try clear hK220 K220
    refine wp_reg mixed [] hst (fun _ => .p rfl (op_add (.t 2 rfl) .k) <| .q 0 rfl <| .nil _ _) (by kernel_rfl) (fun n33 a w hst => ?_)
    replace hst : St M w0 132 [(106,ti (IntKind.i64.wrap (s199.1 + (1:Int)))),(104,tsl rSapi_Rule (x_).Rules),(105,ti ((x_).Rules.length : Int)),(3,tv (n1 0))] [glo,bld t129 (n1 0) (n32 19)] a w := (hst.pick [1,2,3,4])
    exact hK217 _ _ _ (sj h).symm ⟨(n32 19),hst.pick [1,2,0,3]⟩
   ·replace h := ite_f b223 h
    refine wp_exit ?_
    exact hJp214 _ v207 _ _ (ho _ (sj h).symm) (hst.pick [4])
  refine wp_block ?_
  refine wp_loopK _ (fun (s78 : Int × Str) a w => ∃ v137 : Value,St M w0 132 [(55,tsl rSapi_Life (x_).Lives),(56,ti ((x_).Lives.length : Int)),(57,ti s78.1),(3,tv (n1 0)),(1,tptr (rSapi_Schema.cs x_))] [glo,bld s78.2 (n1 0) v137] a w) _ _ he79 ⟨v75,hst.pick [0,1,2,3,4]⟩ ?_
  clear h
  intro s78 o a w K224 hI h ho hK224
  obtain ⟨v137,hst⟩ := hI
  refine wp_seq_k (fun K225 hK225 => ?_)
  refine wp_reg mixed [] hst (fun _ => .p rfl (op_lss (.t 2 rfl) (.t 1 rfl)) <| .nil _ _) (by kernel_rfl) (fun n14 a w hst => ?_)
  replace hst : St M w0 132 [(58,tb (decide (s78.1 < ((x_).Lives.length : Int)))),(55,tsl rSapi_Life (x_).Lives),(56,ti ((x_).Lives.length : Int)),(57,ti s78.1),(3,tv (n1 0)),(1,tptr (rSapi_Schema.cs x_))] [glo,bld s78.2 (n1 0) v137] a w := (hst.pick [0,1,2,3,4,5])
  refine hK225 _ _ ?_
  try clear hK225 K225
  refine wp_seq_k (fun K226 hK226 => ?_)
  refine wp_test 0 hst rfl (fun b281 => ?_) (fun b281 => ?_)
  ·replace h := ite_t b281 h
   refine wp_skip ?_
   refine hK226 _ _ ?_
   try clear hK226 K226
   refine wp_seq_k (fun K227 hK227 => ?_)
   refine wp_block ?_
   refine wp_seq_k (fun K228 hK228 => ?_)
   obtain ⟨t59,ht59,h⟩ := bind_some h
   refine wp_reg mixed [v1 2 (fun v0 => box (rSapi_Life.cs (Sapi_Life.mk ([] : Str) ([] : (List Str)) ([] : (List A2_Int)))) v0),v1 2 (fun v0 => box (rSapi_Life.cs t59) v0)] hst (fun _ => .p rfl (op_index Tryz.underlying31 tok67 (.t 1 rfl) (.t 3 rfl) ht59) <| .p rfl (op_load tok67 (.t 0 rfl)) <| .m [] [2] rfl rfl rfl (op_alloc (R := rSapi_Life) (a := (Sapi_Life.mk ([] : Str) ([] : (List Str)) ([] : (List A2_Int)))) tok67 zok67) <| .e [] [2] [3] rfl rfl rfl rfl (op_storeB (R := rSapi_Life) (a := t59) tok67 (.t 0 rfl) (.t 1 rfl) (leb rfl)) <| .nil _ _) (by kernel_rfl) (fun n15 a w hst => ?_)
   replace hst : St M w0 132 [(9,tptr (rSapi_Life.cs t59)),(55,tsl rSapi_Life (x_).Lives),(56,ti ((x_).Lives.length : Int)),(57,ti s78.1),(3,tv (n1 0)),(1,tptr (rSapi_Schema.cs x_))] [glo,bld s78.2 (n1 0) v137] a w := (((((hst.pick [2,4,5,6,7,8]).selA [2,0,1] rfl).shareB 0 rfl).add 0 rfl (fun _ _ _ h => h.2)).pick [0,3,4,5,6,7])
   refine hK228 _ _ ?_
   try clear hK228 K228
   refine wp_seq_k (fun K230 hK230 => ?_)
   refine wp_reg mixed [v1 7 (fun v0 => own (rAny 3 9) 20 [(AnyV.str (t59).Name),(AnyV.int ((t59).States.length : Int))] v0)] hst (fun _ => .p rfl (op_field fld67_0 (.t 0 rfl)) <| .p rfl (op_loadT (R := rS) (u := (t59).Name) tok9 (.t 0 rfl) rfl) <| .p rfl (op_mkS Tryz.underlying9 (.t 0 rfl)) <| .p rfl (op_field fld67_1 (.t 3 rfl)) <| .p rfl (op_loadT (R := (rSl rS)) (u := (t59).States) tok38 (.t 0 rfl) rfl) <| .p rfl (op_len Tryz.underlying38 (.t 0 rfl)) <| .p rfl (op_mkI Tryz.underlying3 (.t 0 rfl)) <| .m [] [2] rfl rfl rfl (op_buildSlO (R := (rAny 3 9)) (us := [(AnyV.str (t59).Name),(AnyV.int ((t59).States.length : Int))]) Tryz.underlying158 tok20 (.cons (.t 4 rfl) <| .cons (.t 0 rfl) <| .nil _) rfl (leb rfl) (leb rfl)) <| .ud (f := fun v => tv v) 7 rfl [] rfl rfl (op_assign (.t 0 rfl)) <| .nil _ _) (by kernel_rfl) (fun n16 a w hst => ?_)
   replace hst : St M w0 132 [(68,tv (n16 7)),(10,tv (n16 7)),(9,tptr (rSapi_Life.cs t59)),(55,tsl rSapi_Life (x_).Lives),(56,ti ((x_).Lives.length : Int)),(57,ti s78.1),(3,tv (n1 0)),(1,tptr (rSapi_Schema.cs x_))] [glo,bld s78.2 (n1 0) v137,own (rAny 3 9) 20 [(AnyV.str (t59).Name),(AnyV.int ((t59).States.length : Int))] (n16 7)] a w := (hst.pick [7,8,9,10,11,12,13,14])
   refine hK230 _ _ ?_
   try clear hK230 K230
   refine wp_seq_k (fun K232 hK232 => ?_)
   refine wp_seq_k (fun K233 hK233 => ?_)
   refine wp_reg mixed [] hst (fun _ => .p rfl (op_field fld67_1 (.t 2 rfl)) <| .p rfl (op_loadT (R := (rSl rS)) (u := (t59).States) tok38 (.t 0 rfl) rfl) <| .p rfl (op_len Tryz.underlying38 (.t 0 rfl)) <| .p rfl (op_move .k) <| .nil _ _) (by kernel_rfl) (fun n17 a w hst => ?_)
   replace hst : St M w0 132 [(70,tsl rS (t59).States),(71,ti ((t59).States.length : Int)),(72,ti (0:Int)),(68,tv (n16 7)),(10,tv (n16 7)),(9,tptr (rSapi_Life.cs t59)),(55,tsl rSapi_Life (x_).Lives),(56,ti ((x_).Lives.length : Int)),(57,ti s78.1),(3,tv (n1 0)),(1,tptr (rSapi_Schema.cs x_))] [glo,bld s78.2 (n1 0) v137,own (rAny 3 9) 20 [(AnyV.str (t59).Name),(AnyV.int ((t59).States.length : Int))] (n16 7)] a w := (hst.pick [1,2,3,4,5,6,7,8,9,10,11])
   refine hK233 _ _ ?_
   try clear hK233 K233
   obtain ⟨e235,he235,h⟩ := bind_some h
   have hJp247 : ∀ (p247 : List AnyV) (v248 : Value) a w,p247 = e235 → St M w0 132 [(10,tv v248),(9,tptr (rSapi_Life.cs t59)),(55,tsl rSapi_Life (x_).Lives),(56,ti ((x_).Lives.length : Int)),(57,ti s78.1),(3,tv (n1 0)),(1,tptr (rSapi_Schema.cs x_))] [glo,bld s78.2 (n1 0) v137,own (rAny 3 9) 20 p247 v248] a w → K232 a w := by
    intro p247 v248 a w he hst
    subst he
    refine hK232 _ _ ?_
    try clear hK232 K232
    refine wp_seq_k (fun K249 hK249 => ?_)
    obtain ⟨t83,ht83,h⟩ := bind_some h
    obtain ⟨t84,ht84,h⟩ := bind_some h
    refine wp_reg mixed [v1 2 (fun v0 => bld t84 (n1 0) v0)] hst (fun _ => .q 0 rfl <| .u [0,2] rfl rfl ((op_callFU [own (rAny 3 9) 20 p247 v248] call115 (schema_line_ok ht83) (.cons (.of .k) <| .cons (.own (.t 0 rfl) (.head _)) <| .nil) (fun _ => flat_tv) (fun _ => flatN0 (x := undef))).glo) <| .e [] [1] [3] rfl rfl rfl rfl (op_callF call114 (BWriteString_ok ht84) (.cons (.of (.t 7 rfl)) <| .cons (.of (.t 0 rfl)) <| .nil)) <| .nil _ _) (by kernel_rfl) (fun n22 a w hst => ?_)
    replace hst : St M w0 132 [(82,tv v248),(10,tv v248),(9,tptr (rSapi_Life.cs t59)),(55,tsl rSapi_Life (x_).Lives),(56,ti ((x_).Lives.length : Int)),(57,ti s78.1),(3,tv (n1 0)),(1,tptr (rSapi_Schema.cs x_))] [glo,own (rAny 3 9) 20 p247 v248,bld t84 (n1 0) (n22 2)] a w := (hst.pick [0,3,4,5,6,7,8,9])
    refine hK249 _ _ ?_
    try clear hK249 K249
    refine wp_seq_k (fun K250 hK250 => ?_)
    refine wp_reg mixed [] hst (fun _ => .p rfl (op_field fld67_2 (.t 2 rfl)) <| .p rfl (op_loadT (R := (rSl rA2_Int)) (u := (t59).Moves) tok65 (.t 0 rfl) rfl) <| .p rfl (op_len Tryz.underlying65 (.t 0 rfl)) <| .p rfl (op_move .k) <| .nil _ _) (by kernel_rfl) (fun n23 a w hst => ?_)
    replace hst : St M w0 132 [(86,tsl rA2_Int (t59).Moves),(87,ti ((t59).Moves.length : Int)),(88,ti (0:Int)),(82,tv v248),(10,tv v248),(55,tsl rSapi_Life (x_).Lives),(56,ti ((x_).Lives.length : Int)),(57,ti s78.1),(3,tv (n1 0)),(1,tptr (rSapi_Schema.cs x_))] [glo,own (rAny 3 9) 20 p247 v248,bld t84 (n1 0) (n22 2)] a w := (hst.pick [1,2,3,4,5,7,8,9,10,11])
    refine hK250 _ _ ?_
    try clear hK250 K250
    obtain ⟨e252,he252,h⟩ := bind_some h
    have hJp266 : ∀ (p266 : Str) (v267 : Value) a w,p266 = e252 → St M w0 132 [(55,tsl rSapi_Life (x_).Lives),(56,ti ((x_).Lives.length : Int)),(57,ti s78.1),(3,tv (n1 0)),(1,tptr (rSapi_Schema.cs x_))] [glo,bld p266 (n1 0) v267] a w → K227 a w := by
     intro p266 v267 a w he hst
     subst he
     refine hK227 _ _ ?_
     try clear hK227 K227
     refine wp_reg mixed [] hst (fun _ => .p rfl (op_add (.t 2 rfl) .k) <| .q 0 rfl <| .nil _ _) (by kernel_rfl) (fun n28 a w hst => ?_)
     replace hst : St M w0 132 [(57,ti (IntKind.i64.wrap (s78.1 + (1:Int)))),(55,tsl rSapi_Life (x_).Lives),(56,ti ((x_).Lives.length : Int)),(3,tv (n1 0)),(1,tptr (rSapi_Schema.cs x_))] [glo,bld p266 (n1 0) v267] a w := (hst.pick [1,2,3,4,5])
     exact hK224 _ _ _ (sj h).symm ⟨v267,hst.pick [1,2,0,3,4]⟩
    refine wp_block ?_
    refine wp_loopK _ (fun (s251 : Int × Str) a w => ∃ v259 : Value,St M w0 132 [(86,tsl rA2_Int (t59).Moves),(87,ti ((t59).Moves.length : Int)),(88,ti s251.1),(55,tsl rSapi_Life (x_).Lives),(56,ti ((x_).Lives.length : Int)),(57,ti s78.1),(3,tv (n1 0)),(1,tptr (rSapi_Schema.cs x_))] [glo,bld s251.2 (n1 0) v259] a w) _ _ he252 ⟨(n22 2),(hst.pick [0,1,2,5,6,7,8,9]).selA [0,2] rfl⟩ ?_
    clear h
    intro s251 o a w K268 hI h ho hK268
    obtain ⟨v259,hst⟩ := hI
    refine wp_seq_k (fun K269 hK269 => ?_)
    refine wp_reg mixed [] hst (fun _ => .p rfl (op_lss (.t 2 rfl) (.t 1 rfl)) <| .nil _ _) (by kernel_rfl) (fun n24 a w hst => ?_)
    replace hst : St M w0 132 [(89,tb (decide (s251.1 < ((t59).Moves.length : Int)))),(86,tsl rA2_Int (t59).Moves),(87,ti ((t59).Moves.length : Int)),(88,ti s251.1),(55,tsl rSapi_Life (x_).Lives),(56,ti ((x_).Lives.length : Int)),(57,ti s78.1),(3,tv (n1 0)),(1,tptr (rSapi_Schema.cs x_))] [glo,bld s251.2 (n1 0) v259] a w := (hst.pick [0,1,2,3,4,5,6,7,8])
    refine hK269 _ _ ?_
    try clear hK269 K269
    refine wp_seq_k (fun K270 hK270 => ?_)
    refine wp_test 0 hst rfl (fun b274 => ?_) (fun b274 => ?_)
    ·replace h := ite_t b274 h
     refine wp_skip ?_
     refine hK270 _ _ ?_
     try clear hK270 K270
     refine wp_seq_k (fun K271 hK271 => ?_)
     refine wp_block ?_
     refine wp_seq_k (fun K272 hK272 => ?_)
     obtain ⟨t90,ht90,h⟩ := bind_some h
     refine wp_reg mixed [v1 2 (fun v0 => box (rA2_Int.cs (A2_Int.mk (0:Int) (0:Int))) v0),v1 2 (fun v0 => box (rA2_Int.cs t90) v0)] hst (fun _ => .p rfl (op_index Tryz.underlying65 tok98 (.t 1 rfl) (.t 3 rfl) ht90) <| .p rfl (op_load tok98 (.t 0 rfl)) <| .m [] [2] rfl rfl rfl (op_alloc (R := rA2_Int) (a := (A2_Int.mk (0:Int) (0:Int))) tok98 zok98) <| .e [] [2] [3] rfl rfl rfl rfl (op_storeB (R := rA2_Int) (a := t90) tok98 (.t 0 rfl) (.t 1 rfl) (leb rfl)) <| .nil _ _) (by kernel_rfl) (fun n25 a w hst => ?_)
     replace hst : St M w0 132 [(14,tptr (rA2_Int.cs t90)),(86,tsl rA2_Int (t59).Moves),(87,ti ((t59).Moves.length : Int)),(88,ti s251.1),(55,tsl rSapi_Life (x_).Lives),(56,ti ((x_).Lives.length : Int)),(57,ti s78.1),(3,tv (n1 0)),(1,tptr (rSapi_Schema.cs x_))] [glo,bld s251.2 (n1 0) v259] a w := (((((hst.pick [2,4,5,6,7,8,9,10,11]).selA [2,0,1] rfl).shareB 0 rfl).add 0 rfl (fun _ _ _ h => h.2)).pick [0,3,4,5,6,7,8,9,10])
     refine hK272 _ _ ?_
     try clear hK272 K272
     obtain ⟨t99,ht99,h⟩ := bind_some h
     obtain ⟨t100,ht100,h⟩ := bind_some h
     refine wp_reg mixed [v1 8 (fun v0 => bld t100 (n1 0) v0)] hst (fun _ => .p rfl (op_idxA 0 rfl Tryz.underlying98 tok3 (.t 0 rfl) .k (by decide)) <| .p rfl (op_loadT (R := rI) (u := (t90).a0) tok3 (.t 0 rfl) rfl) <| .p rfl (op_mkI Tryz.underlying3 (.t 0 rfl)) <| .p rfl (op_idxA 1 rfl Tryz.underlying98 tok3 (.t 3 rfl) .k (by decide)) <| .p rfl (op_loadT (R := rI) (u := (t90).a1) tok3 (.t 0 rfl) rfl) <| .p rfl (op_mkI Tryz.underlying3 (.t 0 rfl)) <| .p rfl (op_buildSl (R := (rAny 3 9)) (us := [(AnyV.int (t90).a0),(AnyV.int (t90).a1)]) Tryz.underlying158 tok20 (.cons (.t 3 rfl) <| .cons (.t 0 rfl) <| .nil _) rfl (leb rfl)) <| .u [0] rfl rfl ((op_callF call115 (schema_line_ok ht99) (.cons (.of .k) <| .cons (.of (.t 0 rfl)) <| .nil)).glo) <| .e [] [1] [2] rfl rfl rfl rfl (op_callF call114 (BWriteString_ok ht100) (.cons (.of (.t 15 rfl)) <| .cons (.of (.t 0 rfl)) <| .nil)) <| .nil _ _) (by kernel_rfl) (fun n26 a w hst => ?_)
     replace hst : St M w0 132 [(86,tsl rA2_Int (t59).Moves),(87,ti ((t59).Moves.length : Int)),(88,ti s251.1),(55,tsl rSapi_Life (x_).Lives),(56,ti ((x_).Lives.length : Int)),(57,ti s78.1),(3,tv (n1 0)),(1,tptr (rSapi_Schema.cs x_))] [glo,bld t100 (n1 0) (n26 8)] a w := (hst.pick [10,11,12,13,14,15,16,17])
     refine hK271 _ _ ?_
     try clear hK271 K271
     refine wp_reg mixed [] hst (fun _ => .p rfl (op_add (.t 2 rfl) .k) <| .q 0 rfl <| .nil _ _) (by kernel_rfl) (fun n27 a w hst => ?_)
     replace hst : St M w0 132 [(88,ti (IntKind.i64.wrap (s251.1 + (1:Int)))),(86,tsl rA2_Int (t59).Moves),(87,ti ((t59).Moves.length : Int)),(55,tsl rSapi_Life (x_).Lives),(56,ti ((x_).Lives.length : Int)),(57,ti s78.1),(3,tv (n1 0)),(1,tptr (rSapi_Schema.cs x_))] [glo,bld t100 (n1 0) (n26 8)] a w := (hst.pick [1,2,3,4,5,6,7,8])
     exact hK268 _ _ _ (sj h).symm ⟨(n26 8),hst.pick [1,2,0,3,4,5,6,7]⟩
    ·replace h := ite_f b274 h
     refine wp_exit ?_
     exact hJp266 _ v259 _ _ (ho _ (sj h).symm) (hst.pick [4,5,6,7,8])
   refine wp_block ?_
   refine wp_loopK _ (fun (s234 : Int × List AnyV) a w => ∃ v241 : Value,St M w0 132 [(70,tsl rS (t59).States),(71,ti ((t59).States.length : Int)),(72,ti s234.1),(10,tv v241),(9,tptr (rSapi_Life.cs t59)),(55,tsl rSapi_Life (x_).Lives),(56,ti ((x_).Lives.length : Int)),(57,ti s78.1),(3,tv (n1 0)),(1,tptr (rSapi_Schema.cs x_))] [glo,bld s78.2 (n1 0) v137,own (rAny 3 9) 20 s234.2 v241] a w) _ _ he235 ⟨(n16 7),hst.pick [0,1,2,4,5,6,7,8,9,10]⟩ ?_
   clear h
   intro s234 o a w K275 hI h ho hK275
   obtain ⟨v241,hst⟩ := hI
   refine wp_seq_k (fun K276 hK276 => ?_)
   refine wp_reg mixed [] hst (fun _ => .p rfl (op_lss (.t 2 rfl) (.t 1 rfl)) <| .nil _ _) (by kernel_rfl) (fun n18 a w hst => ?_)
   replace hst : St M w0 132 [(73,tb (decide (s234.1 < ((t59).States.length : Int)))),(70,tsl rS (t59).States),(71,ti ((t59).States.length : Int)),(72,ti s234.1),(10,tv v241),(9,tptr (rSapi_Life.cs t59)),(55,tsl rSapi_Life (x_).Lives),(56,ti ((x_).Lives.length : Int)),(57,ti s78.1),(3,tv (n1 0)),(1,tptr (rSapi_Schema.cs x_))] [glo,bld s78.2 (n1 0) v137,own (rAny 3 9) 20 s234.2 v241] a w := (hst.pick [0,1,2,3,4,5,6,7,8,9,10])
   refine hK276 _ _ ?_
   try clear hK276 K276
   refine wp_seq_k (fun K277 hK277 => ?_)
   refine wp_test 0 hst rfl (fun b280 => ?_) (fun b280 => ?_)
   ·replace h := ite_t b280 h
    refine wp_skip ?_
    refine hK277 _ _ ?_
    try clear hK277 K277
    refine wp_seq_k (fun K278 hK278 => ?_)
    refine wp_block ?_
    refine wp_seq_k (fun K279 hK279 => ?_)
    obtain ⟨t74,ht74,h⟩ := bind_some h
    refine wp_reg mixed [] hst (fun _ => .p rfl (op_index Tryz.underlying38 tok9 (.t 1 rfl) (.t 3 rfl) ht74) <| .p rfl (op_load tok9 (.t 0 rfl)) <| .p rfl (op_assign (.t 0 rfl)) <| .nil _ _) (by kernel_rfl) (fun n19 a w hst => ?_)
    replace hst : St M w0 132 [(12,tv (.string (sB t74))),(70,tsl rS (t59).States),(71,ti ((t59).States.length : Int)),(72,ti s234.1),(10,tv v241),(9,tptr (rSapi_Life.cs t59)),(55,tsl rSapi_Life (x_).Lives),(56,ti ((x_).Lives.length : Int)),(57,ti s78.1),(3,tv (n1 0)),(1,tptr (rSapi_Schema.cs x_))] [glo,bld s78.2 (n1 0) v137,own (rAny 3 9) 20 s234.2 v241] a w := (hst.pick [2,4,5,6,7,8,9,10,11,12,13])
    refine hK279 _ _ ?_
    try clear hK279 K279
    obtain ⟨u80,hu80,h⟩ := bind_some h
    refine wp_reg mixed [v1 4 (fun v0 => own (rAny 3 9) 20 (s234.2 ++ [(AnyV.str t74)]) v0)] hst (fun _ => .q 4 rfl <| .q 1 rfl <| .p rfl (op_mkS Tryz.underlying9 (.t 0 rfl)) <| .p rfl (op_buildSl (R := (rAny 3 9)) (us := [(AnyV.str t74)]) Tryz.underlying158 tok20 (.cons (.t 0 rfl) <| .nil _) rfl (leb rfl)) <| .e [] [2] [3] rfl rfl rfl rfl (op_append (R := (rAny 3 9)) Tryz.underlying158 tok20 (leb rfl) (.t 3 rfl) (.t 0 rfl) hu80) <| .ud (f := fun v => tv v) 4 rfl [] rfl rfl (op_assign (.t 0 rfl)) <| .nil _ _) (by kernel_rfl) (fun n20 a w hst => ?_)
    replace hst : St M w0 132 [(80,tv (n20 4)),(10,tv (n20 4)),(70,tsl rS (t59).States),(71,ti ((t59).States.length : Int)),(72,ti s234.1),(9,tptr (rSapi_Life.cs t59)),(55,tsl rSapi_Life (x_).Lives),(56,ti ((x_).Lives.length : Int)),(57,ti s78.1),(3,tv (n1 0)),(1,tptr (rSapi_Schema.cs x_))] [glo,bld s78.2 (n1 0) v137,own (rAny 3 9) 20 (s234.2 ++ [(AnyV.str t74)]) (n20 4)] a w := (hst.pick [4,5,7,8,9,10,11,12,13,14,15])
    refine hK278 _ _ ?_
    try clear hK278 K278
    refine wp_reg mixed [] hst (fun _ => .p rfl (op_add (.t 4 rfl) .k) <| .q 0 rfl <| .nil _ _) (by kernel_rfl) (fun n21 a w hst => ?_)
    replace hst : St M w0 132 [(72,ti (IntKind.i64.wrap (s234.1 + (1:Int)))),(80,tv (n20 4)),(10,tv (n20 4)),(70,tsl rS (t59).States),(71,ti ((t59).States.length : Int)),(9,tptr (rSapi_Life.cs t59)),(55,tsl rSapi_Life (x_).Lives),(56,ti ((x_).Lives.length : Int)),(57,ti s78.1),(3,tv (n1 0)),(1,tptr (rSapi_Schema.cs x_))] [glo,bld s78.2 (n1 0) v137,own (rAny 3 9) 20 (s234.2 ++ [(AnyV.str t74)]) (n20 4)] a w := (hst.pick [1,2,3,4,5,6,7,8,9,10,11])
    exact hK275 _ _ _ (sj h).symm ⟨(n20 4),hst.pick [3,4,0,2,5,6,7,8,9,10]⟩
   ·replace h := ite_f b280 h
    refine wp_exit ?_
    exact hJp247 _ v241 _ _ (ho _ (sj h).symm) (hst.pick [4,5,6,7,8,9,10])
  ·replace h := ite_f b281 h
   refine wp_exit ?_
   exact hJp195 _ v137 _ _ (ho _ (sj h).symm) (hst.pick [4,5])
 refine wp_block ?_
 refine wp_loopK _ (fun (s7 : Int × Str) a w => ∃ v41 : Value,St M w0 132 [(24,tsl rSapi_Kind (x_).Kinds),(25,ti ((x_).Kinds.length : Int)),(26,ti s7.1),(3,tv (n1 0)),(1,tptr (rSapi_Schema.cs x_))] [glo,bld s7.2 (n1 0) v41] a w) _ _ he8 ⟨(n2 5),hst.pick [0,1,2,3,4]⟩ ?_
 clear h
 intro s7 o a w K282 hI h ho hK282
 obtain ⟨v41,hst⟩ := hI
 refine wp_seq_k (fun K283 hK283 => ?_)
 refine wp_reg mixed [] hst (fun _ => .p rfl (op_lss (.t 2 rfl) (.t 1 rfl)) <| .nil _ _) (by kernel_rfl) (fun n4 a w hst => ?_)
 replace hst : St M w0 132 [(27,tb (decide (s7.1 < ((x_).Kinds.length : Int)))),(24,tsl rSapi_Kind (x_).Kinds),(25,ti ((x_).Kinds.length : Int)),(26,ti s7.1),(3,tv (n1 0)),(1,tptr (rSapi_Schema.cs x_))] [glo,bld s7.2 (n1 0) v41] a w := (hst.pick [0,1,2,3,4,5])
 refine hK283 _ _ ?_
 try clear hK283 K283
 refine wp_seq_k (fun K284 hK284 => ?_)
 refine wp_test 0 hst rfl (fun b314 => ?_) (fun b314 => ?_)
 ·replace h := ite_t b314 h
  refine wp_skip ?_
  refine hK284 _ _ ?_
  try clear hK284 K284
  refine wp_seq_k (fun K285 hK285 => ?_)
  refine wp_block ?_
  refine wp_seq_k (fun K286 hK286 => ?_)
  obtain ⟨t28,ht28,h⟩ := bind_some h
  refine wp_reg mixed [v1 2 (fun v0 => box (rSapi_Kind.cs (Sapi_Kind.mk ([] : Str) (0:Int) (0:Int) ([] : (List Sapi_Field)))) v0),v1 2 (fun v0 => box (rSapi_Kind.cs t28) v0)] hst (fun _ => .p rfl (op_index Tryz.underlying30 tok47 (.t 1 rfl) (.t 3 rfl) ht28) <| .p rfl (op_load tok47 (.t 0 rfl)) <| .m [] [2] rfl rfl rfl (op_alloc (R := rSapi_Kind) (a := (Sapi_Kind.mk ([] : Str) (0:Int) (0:Int) ([] : (List Sapi_Field)))) tok47 zok47) <| .e [] [2] [3] rfl rfl rfl rfl (op_storeB (R := rSapi_Kind) (a := t28) tok47 (.t 0 rfl) (.t 1 rfl) (leb rfl)) <| .nil _ _) (by kernel_rfl) (fun n5 a w hst => ?_)
  replace hst : St M w0 132 [(5,tptr (rSapi_Kind.cs t28)),(24,tsl rSapi_Kind (x_).Kinds),(25,ti ((x_).Kinds.length : Int)),(26,ti s7.1),(3,tv (n1 0)),(1,tptr (rSapi_Schema.cs x_))] [glo,bld s7.2 (n1 0) v41] a w := (((((hst.pick [2,4,5,6,7,8]).selA [2,0,1] rfl).shareB 0 rfl).add 0 rfl (fun _ _ _ h => h.2)).pick [0,3,4,5,6,7])
  refine hK286 _ _ ?_
  try clear hK286 K286
  refine wp_seq_k (fun K288 hK288 => ?_)
  obtain ⟨t40,ht40,h⟩ := bind_some h
  obtain ⟨t41,ht41,h⟩ := bind_some h
  refine wp_reg mixed [v1 11 (fun v0 => bld t41 (n1 0) v0)] hst (fun _ => .p rfl (op_field fld47_0 (.t 0 rfl)) <| .p rfl (op_loadT (R := rS) (u := (t28).Name) tok9 (.t 0 rfl) rfl) <| .p rfl (op_mkS Tryz.underlying9 (.t 0 rfl)) <| .p rfl (op_field fld47_1 (.t 3 rfl)) <| .p rfl (op_loadT (R := rI) (u := (t28).Lo) tok3 (.t 0 rfl) rfl) <| .p rfl (op_mkI Tryz.underlying3 (.t 0 rfl)) <| .p rfl (op_field fld47_2 (.t 6 rfl)) <| .p rfl (op_loadT (R := rI) (u := (t28).Hi) tok3 (.t 0 rfl) rfl) <| .p rfl (op_mkI Tryz.underlying3 (.t 0 rfl)) <| .p rfl (op_buildSl (R := (rAny 3 9)) (us := [(AnyV.str (t28).Name),(AnyV.int (t28).Lo),(AnyV.int (t28).Hi)]) Tryz.underlying158 tok20 (.cons (.t 6 rfl) <| .cons (.t 3 rfl) <| .cons (.t 0 rfl) <| .nil _) rfl (leb rfl)) <| .u [0] rfl rfl ((op_callF call115 (schema_line_ok ht40) (.cons (.of .k) <| .cons (.of (.t 0 rfl)) <| .nil)).glo) <| .e [] [1] [2] rfl rfl rfl rfl (op_callF call114 (BWriteString_ok ht41) (.cons (.of (.t 15 rfl)) <| .cons (.of (.t 0 rfl)) <| .nil)) <| .nil _ _) (by kernel_rfl) (fun n6 a w hst => ?_)
  replace hst : St M w0 132 [(5,tptr (rSapi_Kind.cs t28)),(24,tsl rSapi_Kind (x_).Kinds),(25,ti ((x_).Kinds.length : Int)),(26,ti s7.1),(3,tv (n1 0)),(1,tptr (rSapi_Schema.cs x_))] [glo,bld t41 (n1 0) (n6 11)] a w := (hst.pick [12,13,14,15,16,17])
  refine hK288 _ _ ?_
  try clear hK288 K288
  refine wp_seq_k (fun K289 hK289 => ?_)
  refine wp_reg mixed [] hst (fun _ => .p rfl (op_field fld47_3 (.t 0 rfl)) <| .p rfl (op_loadT (R := (rSl rSapi_Field)) (u := (t28).Fields) tok45 (.t 0 rfl) rfl) <| .p rfl (op_len Tryz.underlying45 (.t 0 rfl)) <| .p rfl (op_move .k) <| .nil _ _) (by kernel_rfl) (fun n7 a w hst => ?_)
  replace hst : St M w0 132 [(43,tsl rSapi_Field (t28).Fields),(44,ti ((t28).Fields.length : Int)),(45,ti (0:Int)),(24,tsl rSapi_Kind (x_).Kinds),(25,ti ((x_).Kinds.length : Int)),(26,ti s7.1),(3,tv (n1 0)),(1,tptr (rSapi_Schema.cs x_))] [glo,bld t41 (n1 0) (n6 11)] a w := (hst.pick [1,2,3,5,6,7,8,9])
  refine hK289 _ _ ?_
  try clear hK289 K289
  obtain ⟨e291,he291,h⟩ := bind_some h
  have hJp305 : ∀ (p305 : Str) (v306 : Value) a w,p305 = e291 → St M w0 132 [(24,tsl rSapi_Kind (x_).Kinds),(25,ti ((x_).Kinds.length : Int)),(26,ti s7.1),(3,tv (n1 0)),(1,tptr (rSapi_Schema.cs x_))] [glo,bld p305 (n1 0) v306] a w → K285 a w := by
   intro p305 v306 a w he hst
   subst he
   refine hK285 _ _ ?_
   try clear hK285 K285
   refine wp_reg mixed [] hst (fun _ => .p rfl (op_add (.t 2 rfl) .k) <| .q 0 rfl <| .nil _ _) (by kernel_rfl) (fun n12 a w hst => ?_)
   replace hst : St M w0 132 [(26,ti (IntKind.i64.wrap (s7.1 + (1:Int)))),(24,tsl rSapi_Kind (x_).Kinds),(25,ti ((x_).Kinds.length : Int)),(3,tv (n1 0)),(1,tptr (rSapi_Schema.cs x_))] [glo,bld p305 (n1 0) v306] a w := (hst.pick [1,2,3,4,5])
   exact hK282 _ _ _ (sj h).symm ⟨v306,hst.pick [1,2,0,3,4]⟩
  refine wp_block ?_
  refine wp_loopK _ (fun (s290 : Int × Str) a w => ∃ v298 : Value,St M w0 132 [(43,tsl rSapi_Field (t28).Fields),(44,ti ((t28).Fields.length : Int)),(45,ti s290.1),(24,tsl rSapi_Kind (x_).Kinds),(25,ti ((x_).Kinds.length : Int)),(26,ti s7.1),(3,tv (n1 0)),(1,tptr (rSapi_Schema.cs x_))] [glo,bld s290.2 (n1 0) v298] a w) _ _ he291 ⟨(n6 11),hst.pick [0,1,2,3,4,5,6,7]⟩ ?_
  clear h
  intro s290 o a w K307 hI h ho hK307
  obtain ⟨v298,hst⟩ := hI
  refine wp_seq_k (fun K308 hK308 => ?_)
  refine wp_reg mixed [] hst (fun _ => .p rfl (op_lss (.t 2 rfl) (.t 1 rfl)) <| .nil _ _) (by kernel_rfl) (fun n8 a w hst => ?_)
  replace hst : St M w0 132 [(46,tb (decide (s290.1 < ((t28).Fields.length : Int)))),(43,tsl rSapi_Field (t28).Fields),(44,ti ((t28).Fields.length : Int)),(45,ti s290.1),(24,tsl rSapi_Kind (x_).Kinds),(25,ti ((x_).Kinds.length : Int)),(26,ti s7.1),(3,tv (n1 0)),(1,tptr (rSapi_Schema.cs x_))] [glo,bld s290.2 (n1 0) v298] a w := (hst.pick [0,1,2,3,4,5,6,7,8])
  refine hK308 _ _ ?_
  try clear hK308 K308
  refine wp_seq_k (fun K309 hK309 => ?_)
  refine wp_test 0 hst rfl (fun b313 => ?_) (fun b313 => ?_)
  ·replace h := ite_t b313 h
   refine wp_skip ?_
   refine hK309 _ _ ?_
   try clear hK309 K309
   refine wp_seq_k (fun K310 hK310 => ?_)
   refine wp_block ?_
   refine wp_seq_k (fun K311 hK311 => ?_)
   obtain ⟨t47,ht47,h⟩ := bind_some h
   refine wp_reg mixed [v1 2 (fun v0 => box (rSapi_Field.cs (Sapi_Field.mk ([] : Str) ([] : Str) ([] : Str) (0:Int) (0:Int) (0:Int) ([] : (List Str)) ([] : (List Int)))) v0),v1 2 (fun v0 => box (rSapi_Field.cs t47) v0)] hst (fun _ => .p rfl (op_index Tryz.underlying45 tok44 (.t 1 rfl) (.t 3 rfl) ht47) <| .p rfl (op_load tok44 (.t 0 rfl)) <| .m [] [2] rfl rfl rfl (op_alloc (R := rSapi_Field) (a := (Sapi_Field.mk ([] : Str) ([] : Str) ([] : Str) (0:Int) (0:Int) (0:Int) ([] : (List Str)) ([] : (List Int)))) tok44 zok44) <| .e [] [2] [3] rfl rfl rfl rfl (op_storeB (R := rSapi_Field) (a := t47) tok44 (.t 0 rfl) (.t 1 rfl) (leb rfl)) <| .nil _ _) (by kernel_rfl) (fun n9 a w hst => ?_)
   replace hst : St M w0 132 [(7,tptr (rSapi_Field.cs t47)),(43,tsl rSapi_Field (t28).Fields),(44,ti ((t28).Fields.length : Int)),(45,ti s290.1),(24,tsl rSapi_Kind (x_).Kinds),(25,ti ((x_).Kinds.length : Int)),(26,ti s7.1),(3,tv (n1 0)),(1,tptr (rSapi_Schema.cs x_))] [glo,bld s290.2 (n1 0) v298] a w := (((((hst.pick [2,4,5,6,7,8,9,10,11]).selA [2,0,1] rfl).shareB 0 rfl).add 0 rfl (fun _ _ _ h => h.2)).pick [0,3,4,5,6,7,8,9,10])
   refine hK311 _ _ ?_
   try clear hK311 K311
   obtain ⟨t50,ht50,h⟩ := bind_some h
   obtain ⟨t51,ht51,h⟩ := bind_some h
   refine wp_reg mixed [v1 2 (fun v0 => bld t51 (n1 0) v0)] hst (fun _ => .p rfl (op_load tok44 (.t 0 rfl)) <| .u [0] rfl rfl ((op_callF call116 (schema_field_ok ht50) (.cons (.of (.t 0 rfl)) <| .nil)).glo) <| .e [] [1] [2] rfl rfl rfl rfl (op_callF call114 (BWriteString_ok ht51) (.cons (.of (.t 9 rfl)) <| .cons (.of (.t 0 rfl)) <| .nil)) <| .nil _ _) (by kernel_rfl) (fun n10 a w hst => ?_)
   replace hst : St M w0 132 [(43,tsl rSapi_Field (t28).Fields),(44,ti ((t28).Fields.length : Int)),(45,ti s290.1),(24,tsl rSapi_Kind (x_).Kinds),(25,ti ((x_).Kinds.length : Int)),(26,ti s7.1),(3,tv (n1 0)),(1,tptr (rSapi_Schema.cs x_))] [glo,bld t51 (n1 0) (n10 2)] a w := (hst.pick [4,5,6,7,8,9,10,11])
   refine hK310 _ _ ?_
   try clear hK310 K310
   refine wp_reg mixed [] hst (fun _ => .p rfl (op_add (.t 2 rfl) .k) <| .q 0 rfl <| .nil _ _) (by kernel_rfl) (fun n11 a w hst => ?_)
   replace hst : St M w0 132 [(45,ti (IntKind.i64.wrap (s290.1 + (1:Int)))),(43,tsl rSapi_Field (t28).Fields),(44,ti ((t28).Fields.length : Int)),(24,tsl rSapi_Kind (x_).Kinds),(25,ti ((x_).Kinds.length : Int)),(26,ti s7.1),(3,tv (n1 0)),(1,tptr (rSapi_Schema.cs x_))] [glo,bld t51 (n1 0) (n10 2)] a w := (hst.pick [1,2,3,4,5,6,7,8])
   exact hK307 _ _ _ (sj h).symm ⟨(n10 2),hst.pick [1,2,0,3,4,5,6,7]⟩
  ·replace h := ite_f b313 h
   refine wp_exit ?_
   exact hJp305 _ v298 _ _ (ho _ (sj h).symm) (hst.pick [4,5,6,7,8])
 ·replace h := ite_f b314 h
  refine wp_exit ?_
  exact hJp74 _ v41 _ _ (ho _ (sj h).symm) (hst.pick [4,5])

/- diorama/schema.Valid -/
noncomputable def fschema_Valid (x_ : Sapi_Schema) : Option (Int) := (fschema_within (x_).Version (0:Int) (1048576:Int)).bind fun t6 => (opt (((((!t6) || (decide (((x_).Kinds.length : Int) > (6:Int)))) || (decide (((x_).Lives.length : Int) > (6:Int)))) || (decide (((x_).Rules.length : Int) > (16:Int)))) == false) (fschema_all_Kind (x_).Kinds (fun x0 => fschema_isKind x0)) default).bind fun t29 => (opt ((((((!t6) || (decide (((x_).Kinds.length : Int) > (6:Int)))) || (decide (((x_).Lives.length : Int) > (6:Int)))) || (decide (((x_).Rules.length : Int) > (16:Int)))) || (!t29)) == false) (fschema_all_Life (x_).Lives (fun x0 => fschema_isLife x0)) default).bind fun t35 => (opt (((((((!t6) || (decide (((x_).Kinds.length : Int) > (6:Int)))) || (decide (((x_).Lives.length : Int) > (6:Int)))) || (decide (((x_).Rules.length : Int) > (16:Int)))) || (!t29)) || (!t35)) == false) (fschema_all_Rule (x_).Rules (fun x0 => fschema_isRule x0)) default).bind fun t41 => (if (((((((!t6) || (decide (((x_).Kinds.length : Int) > (6:Int)))) || (decide (((x_).Lives.length : Int) > (6:Int)))) || (decide (((x_).Rules.length : Int) > (16:Int)))) || (!t29)) || (!t35)) || (!t41)) = true then (some (1:Int)) else (fschema_source x_).bind fun t46 => (if (decide ((t46.length : Int) > (8192:Int))) = true then (some (4:Int)) else (some (0:Int))))
set_option maxRecDepth 100000 in
set_option maxHeartbeats 4000000 in
theorem schema_Valid_ok {x_ : Sapi_Schema} {r : Int} (h : fschema_Valid x_ = some r) : FnOk Tryz.prog 28 [rSapi_Schema.ty x_] [glo] (fun _ => []) (fun _ => ti r) := by
 unfold fschema_Valid at h
 refine FnOk.enter Tryz.func28 rfl Tryz.ntmps28 (leb rfl) (fun M0 M w0 a hpl hst => ?_)
 replace hst : St M w0 49 [(0,rSapi_Schema.ty x_)] [glo] a w0 := hst
 refine wp_seq_k (fun K1 hK1 => ?_)
 refine wp_reg mixed [] hst (fun _ => .p rfl (op_boxR (R := rSapi_Schema) (u := x_) (.t 0 rfl)) <| .p rfl (op_assign .k) <| .nil _ _) (by kernel_rfl) (fun n0 a w hst => ?_)
 replace hst : St M w0 49 [(1,tptr (rSapi_Schema.cs x_))] [glo] a w := (hst.pick [0])
 refine hK1 _ _ ?_
 try clear hK1 K1
 refine wp_seq_k (fun K2 hK2 => ?_)
 refine wp_block ?_
 refine wp_seq_k (fun K3 hK3 => ?_)
 obtain ⟨t6,ht6,h⟩ := bind_some h
 obtain ⟨t29,ht29,h⟩ := bind_some h
 obtain ⟨t35,ht35,h⟩ := bind_some h
 obtain ⟨t41,ht41,h⟩ := bind_some h
 refine wp_reg mixed [] hst (fun _ => .p rfl (op_field fld34_0 (.t 0 rfl)) <| .p rfl (op_loadT (R := rI) (u := (x_).Version) tok3 (.t 0 rfl) rfl) <| .p rfl (op_callF call73 (schema_within_ok ht6) (.cons (.of (.t 0 rfl)) <| .cons (.of .k) <| .cons (.of .k) <| .nil)) <| .p rfl (op_not (.t 0 rfl)) <| .q 0 rfl <| .g rfl rfl (.b 0 rfl) (fun _ => op_field fld34_1 (.t 5 rfl)) <| .g rfl rfl (.b 1 rfl) (fun hc => op_loadT (R := (rSl rSapi_Kind)) (u := (x_).Kinds) tok30 (.cond (.t 0 rfl) hc) rfl) <| .g rfl rfl (.b 2 rfl) (fun hc => op_len Tryz.underlying30 (.cond (.t 0 rfl) hc)) <| .g rfl rfl (.b 3 rfl) (fun hc => op_gtr (.cond (.t 0 rfl) hc) .k) <| .p rfl (op_or (.t 4 rfl) (fun hp => (.cond (.t 0 rfl) (beqF hp)))) <| .q 0 rfl <| .g rfl rfl (.b 0 rfl) (fun _ => op_field fld34_2 (.t 11 rfl)) <| .g rfl rfl (.b 1 rfl) (fun hc => op_loadT (R := (rSl rSapi_Life)) (u := (x_).Lives) tok31 (.cond (.t 0 rfl) hc) rfl) <| .g rfl rfl (.b 2 rfl) (fun hc => op_len Tryz.underlying31 (.cond (.t 0 rfl) hc)) <| .g rfl rfl (.b 3 rfl) (fun hc => op_gtr (.cond (.t 0 rfl) hc) .k) <| .p rfl (op_or (.t 4 rfl) (fun hp => (.cond (.t 0 rfl) (beqF hp)))) <| .q 0 rfl <| .g rfl rfl (.b 0 rfl) (fun _ => op_field fld34_3 (.t 17 rfl)) <| .g rfl rfl (.b 1 rfl) (fun hc => op_loadT (R := (rSl rSapi_Rule)) (u := (x_).Rules) tok32 (.cond (.t 0 rfl) hc) rfl) <| .g rfl rfl (.b 2 rfl) (fun hc => op_len Tryz.underlying32 (.cond (.t 0 rfl) hc)) <| .g rfl rfl (.b 3 rfl) (fun hc => op_gtr (.cond (.t 0 rfl) hc) .k) <| .p rfl (op_or (.t 4 rfl) (fun hp => (.cond (.t 0 rfl) (beqF hp)))) <| .q 0 rfl <| .g rfl rfl (.b 0 rfl) (fun _ => op_field fld34_1 (.t 23 rfl)) <| .g rfl rfl (.b 1 rfl) (fun hc => op_loadT (R := (rSl rSapi_Kind)) (u := (x_).Kinds) tok30 (.cond (.t 0 rfl) hc) rfl) <| .g rfl rfl (.b 2 rfl) (fun hc => op_callF call74 (schema_all_Kind_ok (opt_t ht29 hc)) (.cons (.of (.cond (.t 0 rfl) hc)) <| .cons (.of (Fct.weak .fnE (tfn_of call75 (fun _ _ hq => schema_isKind_ok hq)))) <| .nil)) <| .g rfl rfl (.b 3 rfl) (fun hc => op_not (.cond (.t 0 rfl) hc)) <| .p rfl (op_or (.t 4 rfl) (fun hp => (.cond (.t 0 rfl) (beqF hp)))) <| .q 0 rfl <| .g rfl rfl (.b 0 rfl) (fun _ => op_field fld34_2 (.t 29 rfl)) <| .g rfl rfl (.b 1 rfl) (fun hc => op_loadT (R := (rSl rSapi_Life)) (u := (x_).Lives) tok31 (.cond (.t 0 rfl) hc) rfl) <| .g rfl rfl (.b 2 rfl) (fun hc => op_callF call76 (schema_all_Life_ok (opt_t ht35 hc)) (.cons (.of (.cond (.t 0 rfl) hc)) <| .cons (.of (Fct.weak .fnE (tfn_of call77 (fun _ _ hq => schema_isLife_ok hq)))) <| .nil)) <| .g rfl rfl (.b 3 rfl) (fun hc => op_not (.cond (.t 0 rfl) hc)) <| .p rfl (op_or (.t 4 rfl) (fun hp => (.cond (.t 0 rfl) (beqF hp)))) <| .q 0 rfl <| .g rfl rfl (.b 0 rfl) (fun _ => op_field fld34_3 (.t 35 rfl)) <| .g rfl rfl (.b 1 rfl) (fun hc => op_loadT (R := (rSl rSapi_Rule)) (u := (x_).Rules) tok32 (.cond (.t 0 rfl) hc) rfl) <| .g rfl rfl (.b 2 rfl) (fun hc => op_callF call78 (schema_all_Rule_ok (opt_t ht41 hc)) (.cons (.of (.cond (.t 0 rfl) hc)) <| .cons (.of (Fct.weak .fnE (tfn_of call79 (fun _ _ hq => schema_isRule_ok hq)))) <| .nil)) <| .g rfl rfl (.b 3 rfl) (fun hc => op_not (.cond (.t 0 rfl) hc)) <| .p rfl (op_or (.t 4 rfl) (fun hp => (.cond (.t 0 rfl) (beqF hp)))) <| .p rfl (op_assign (.t 0 rfl)) <| .nil _ _) (by kernel_rfl) (fun n1 a w hst => ?_)
 replace hst : St M w0 49 [(3,tb (((((((!t6) || (decide (((x_).Kinds.length : Int) > (6:Int)))) || (decide (((x_).Lives.length : Int) > (6:Int)))) || (decide (((x_).Rules.length : Int) > (16:Int)))) || (!t29)) || (!t35)) || (!t41))),(1,tptr (rSapi_Schema.cs x_))] [glo] a w := (hst.pick [40,41])
 refine hK3 _ _ ?_
 try clear hK3 K3
 refine wp_test 0 hst rfl (fun b9 => ?_) (fun b9 => ?_)
 ·replace h := ite_t b9 h
  refine wp_seq_k (fun K4 hK4 => ?_)
  refine wp_reg mixed [] hst (fun _ => .p rfl (op_assign .k) <| .nil _ _) (by kernel_rfl) (fun n2 a w hst => ?_)
  replace hst : St M w0 49 [(2,ti (1:Int))] [glo] a w := (hst.pick [0])
  refine hK4 _ _ ?_
  try clear hK4 K4
  refine wp_ret ?_
  obtain rfl := sj h
  exact ret_st undef [] hpl hst rfl (.tmp (.t 0 rfl) .nil) rfl rfl rfl
 ·replace h := ite_f b9 h
  refine wp_seq_k (fun K5 hK5 => ?_)
  obtain ⟨t46,ht46,h⟩ := bind_some h
  refine wp_reg mixed [] hst (fun _ => .p rfl (op_load tok34 (.t 1 rfl)) <| .u [0] rfl rfl ((op_callF call80 (schema_source_ok ht46) (.cons (.of (.t 0 rfl)) <| .nil)).glo) <| .p rfl (op_lenS' Tryz.underlying9 (.t 0 rfl)) <| .p rfl (op_gtr (.t 0 rfl) .k) <| .p rfl (op_assign (.t 0 rfl)) <| .nil _ _) (by kernel_rfl) (fun n3 a w hst => ?_)
  replace hst : St M w0 49 [(44,tb (decide ((t46.length : Int) > (8192:Int))))] [glo] a w := (hst.pick [4])
  refine hK5 _ _ ?_
  try clear hK5 K5
  refine wp_test 0 hst rfl (fun b8 => ?_) (fun b8 => ?_)
  ·replace h := ite_t b8 h
   refine wp_seq_k (fun K6 hK6 => ?_)
   refine wp_reg mixed [] hst (fun _ => .p rfl (op_assign .k) <| .nil _ _) (by kernel_rfl) (fun n4 a w hst => ?_)
   replace hst : St M w0 49 [(2,ti (4:Int))] [glo] a w := (hst.pick [0])
   refine hK6 _ _ ?_
   try clear hK6 K6
   refine wp_ret ?_
   obtain rfl := sj h
   exact ret_st undef [] hpl hst rfl (.tmp (.t 0 rfl) .nil) rfl rfl rfl
  ·replace h := ite_f b8 h
   refine wp_skip ?_
   refine hK2 _ _ ?_
   try clear hK2 K2
   refine wp_seq_k (fun K7 hK7 => ?_)
   refine wp_reg mixed [] hst (fun _ => .p rfl (op_assign .k) <| .nil _ _) (by kernel_rfl) (fun n5 a w hst => ?_)
   replace hst : St M w0 49 [(2,ti (0:Int))] [glo] a w := (hst.pick [0])
   refine hK7 _ _ ?_
   try clear hK7 K7
   refine wp_ret ?_
   obtain rfl := sj h
   exact ret_st undef [] hpl hst rfl (.tmp (.t 0 rfl) .nil) rfl rfl rfl

/- diorama/typing.Check$1 -/
noncomputable def ftyping_Checkq1 (kind_ : Int) (field_ : Int) (rule_ : Int) (e_ : Int) (c0_ : (List Styping_Problem)) : Option ((List Styping_Problem)) := ((if (e_ != (0:Int)) = true then (rm (c0_.length + [(Styping_Problem.mk kind_ field_ rule_ e_)].length)).bind fun _ => (some (c0_ ++ [(Styping_Problem.mk kind_ field_ rule_ e_)])) else (some c0_))).bind fun (p4 : List Styping_Problem) => (some p4)
set_option maxRecDepth 100000 in
set_option maxHeartbeats 4000000 in
theorem typing_Checkq1_ok {q4 : Value} {vh4 : Value} {kind_ : Int} {field_ : Int} {rule_ : Int} {e_ : Int} {c0_ : (List Styping_Problem)} {r : (List Styping_Problem)} (h : ftyping_Checkq1 kind_ field_ rule_ e_ c0_ = some r) : FnOk Tryz.prog 32 [ti kind_,ti field_,ti rule_,ti e_,tv q4] [box (rVal.cs vh4) q4,own rStyping_Problem 63 c0_ vh4] (fun v => [box (rVal.cs v) q4,own rStyping_Problem 63 r v]) (fun _ => ttup []) := by
 unfold ftyping_Checkq1 at h
 refine FnOk.enter Tryz.func32 rfl Tryz.ntmps32 (leb rfl) (fun M0 M w0 a hpl hst => ?_)
 replace hst : St M w0 19 [(0,ti kind_),(1,ti field_),(2,ti rule_),(3,ti e_),(4,tv q4)] [box (rVal.cs vh4) q4,own rStyping_Problem 63 c0_ vh4] a w0 := hst
 refine wp_seq_k (fun K3 hK3 => ?_)
 refine wp_reg mixed [] hst (fun _ => .q 3 rfl <| .p rfl (op_neq (.t 0 rfl) .k) <| .nil _ _) (by kernel_rfl) (fun n0 a w hst => ?_)
 replace hst : St M w0 19 [(10,tb (e_ != (0:Int))),(0,ti kind_),(1,ti field_),(2,ti rule_),(3,ti e_),(4,tv q4)] [box (rVal.cs vh4) q4,own rStyping_Problem 63 c0_ vh4] a w := (hst.pick [1,2,3,4,5,6])
 refine hK3 _ _ ?_
 try clear hK3 K3
 obtain ⟨p4,hp4,h⟩ := bind_some h
 have hJp4 : ∀ (v6 : Value) a w,St M w0 19 [(4,tv q4)] [own rStyping_Problem 63 p4 v6,box (rVal.cs v6) q4] a w → Ret Tryz.prog Tryz.f32 M0 [box (rVal.cs vh4) q4,own rStyping_Problem 63 c0_ vh4] w0 (fun v => [box (rVal.cs v) q4,own rStyping_Problem 63 r v]) (fun _ => ttup []) .normal a w := by
  intro v6 a w hst
  obtain rfl := sj h
  exact ret_stN v6 [1,0] hpl hst rfl .nil rfl rfl rfl
 replace h := hp4
 clear hp4
 refine wp_test 0 hst rfl (fun b7 => ?_) (fun b7 => ?_)
 ·replace h := ite_t b7 h
  obtain ⟨u18,hu18,h⟩ := bind_some h
  refine wp_reg mixed [v1 7 (fun v0 => own rStyping_Problem 63 (c0_ ++ [(Styping_Problem.mk kind_ field_ rule_ e_)]) v0),v1 7 (fun v0 => box (rVal.cs v0) q4)] hst (fun _ => .u [0] rfl rfl (op_loadBV tokV28 (.t 5 rfl)) <| .q 2 rfl <| .q 4 rfl <| .q 6 rfl <| .q 8 rfl <| .p (T := rStyping_Problem.ty (Styping_Problem.mk kind_ field_ rule_ e_)) rfl (op_build Tryz.underlying63 pl63 zv63 zc63 (.cons (R := rI) (u := kind_) rfl (.t 3 rfl) (leb rfl) <| .cons (R := rI) (u := field_) rfl (.t 2 rfl) (leb rfl) <| .cons (R := rI) (u := rule_) rfl (.t 1 rfl) (leb rfl) <| .cons (R := rI) (u := e_) rfl (.t 0 rfl) (leb rfl) <| .nil _)) <| .p rfl (op_buildSl (R := rStyping_Problem) (us := [(Styping_Problem.mk kind_ field_ rule_ e_)]) Tryz.underlying28 tok63 (.cons (.t 0 rfl) <| .nil _) rfl (leb rfl)) <| .e [] [1] [2] rfl rfl rfl rfl (op_append (R := rStyping_Problem) Tryz.underlying28 tok63 (leb rfl) (.t 6 rfl) (.t 0 rfl) hu18) <| .e [2] [0] [3] rfl rfl rfl rfl (op_storeBV2 (R := rStyping_Problem) (e := 63) (Ts := (rVal.cs vh4)) tokV28 (.t 13 rfl) (.t 0 rfl) (leb rfl)) <| .nil _ _) (by kernel_rfl) (fun n1 a w hst => ?_)
  replace hst : St M w0 19 [(18,tv (n1 7)),(4,tv q4)] [own rStyping_Problem 63 (c0_ ++ [(Styping_Problem.mk kind_ field_ rule_ e_)]) (n1 7),box (rVal.cs (n1 7)) q4] a w := (hst.pick [7,13])
  obtain rfl := sj h
  exact hJp4 (n1 7) _ _ (hst.pick [1])
 ·replace h := ite_f b7 h
  refine wp_skip ?_
  obtain rfl := sj h
  exact hJp4 vh4 _ _ ((hst.pick [5]).selA [1,0] rfl)

/- diorama/typing.Check$2 -/
noncomputable def ftyping_Checkq2 (m_ : Sapi_Life) (c0_ : Sapi_Life) : Option (Bool) := (some ((m_).Name == (c0_).Name))
set_option maxRecDepth 100000 in
set_option maxHeartbeats 4000000 in
theorem typing_Checkq2_ok {m_ : Sapi_Life} {c0_ : Sapi_Life} {r : Bool} (h : ftyping_Checkq2 m_ c0_ = some r) : FnOk Tryz.prog 34 [rSapi_Life.ty m_,tptr (rSapi_Life.cs c0_)] [] (fun _ => []) (fun _ => tb r) := by
 unfold ftyping_Checkq2 at h
 refine FnOk.enter Tryz.func34 rfl Tryz.ntmps34 (leb rfl) (fun M0 M w0 a hpl hst => ?_)
 replace hst : St M w0 9 [(0,rSapi_Life.ty m_),(1,tptr (rSapi_Life.cs c0_))] [] a w0 := hst
 refine wp_seq_k (fun K1 hK1 => ?_)
 refine wp_reg mixed [] hst (fun _ => .p rfl (op_boxR (R := rSapi_Life) (u := m_) (.t 0 rfl)) <| .p rfl (op_assign .k) <| .nil _ _) (by kernel_rfl) (fun n0 a w hst => ?_)
 replace hst : St M w0 9 [(2,tptr (rSapi_Life.cs m_)),(1,tptr (rSapi_Life.cs c0_))] [] a w := (hst.pick [0,3])
 refine hK1 _ _ ?_
 try clear hK1 K1
 refine wp_seq_k (fun K2 hK2 => ?_)
 refine wp_reg mixed [] hst (fun _ => .p rfl (op_field fld67_0 (.t 0 rfl)) <| .p rfl (op_loadT (R := rS) (u := (m_).Name) tok9 (.t 0 rfl) rfl) <| .p rfl (op_field fld67_0 (.t 3 rfl)) <| .p rfl (op_loadT (R := rS) (u := (c0_).Name) tok9 (.t 0 rfl) rfl) <| .p rfl (op_eqlS (.t 2 rfl) (.t 0 rfl)) <| .p rfl (op_assign (.t 0 rfl)) <| .nil _ _) (by kernel_rfl) (fun n1 a w hst => ?_)
 replace hst : St M w0 9 [(3,tb ((m_).Name == (c0_).Name))] [] a w := (hst.pick [5])
 refine hK2 _ _ ?_
 try clear hK2 K2
 refine wp_ret ?_
 obtain rfl := sj h
 exact ret_st undef [] hpl hst rfl (.tmp (.t 0 rfl) .nil) rfl rfl rfl

/- diorama/typing.first -/
noncomputable def ftyping_first (l_ : (List Styping_fault)) : Option (Int) := (tailrec (fun (s4 : Int) => ((if (decide (s4 < (l_.length : Int))) = true then (idx l_ s4).bind fun t9 => (if (t9).is = true then (some (.inr (.inr (t9).code))) else (some (.inl (IntKind.i64.wrap (s4 + (1:Int)))))) else (some (.inr (.inl ())))) : Option ((Int) ⊕ ((Unit) ⊕ (Int))))) (0:Int)).bind fun (e5 : (Unit) ⊕ (Int)) => (match e5 with | .inl p24 => (some (0:Int)) | .inr p25 => (some p25))
set_option maxRecDepth 100000 in
set_option maxHeartbeats 4000000 in
theorem typing_first_ok {l_ : (List Styping_fault)} {r : Int} (h : ftyping_first l_ = some r) : FnOk Tryz.prog 35 [tsl rStyping_fault l_] [] (fun _ => []) (fun _ => ti r) := by
 unfold ftyping_first at h
 refine FnOk.enter Tryz.func35 rfl Tryz.ntmps35 (leb rfl) (fun M0 M w0 a hpl hst => ?_)
 replace hst : St M w0 16 [(0,tsl rStyping_fault l_)] [] a w0 := hst
 refine wp_seq_k (fun K1 hK1 => ?_)
 refine wp_reg mixed [] hst (fun _ => .p rfl (op_assign .k) <| .nil _ _) (by kernel_rfl) (fun n0 a w hst => ?_)
 replace hst : St M w0 16 [(0,tsl rStyping_fault l_)] [] a w := (hst.pick [1])
 refine hK1 _ _ ?_
 try clear hK1 K1
 refine wp_seq_k (fun K2 hK2 => ?_)
 refine wp_seq_k (fun K3 hK3 => ?_)
 refine wp_reg mixed [] hst (fun _ => .q 0 rfl <| .p rfl (op_len Tryz.underlying135 (.t 0 rfl)) <| .p rfl (op_move .k) <| .nil _ _) (by kernel_rfl) (fun n1 a w hst => ?_)
 replace hst : St M w0 16 [(5,tsl rStyping_fault l_),(6,ti (l_.length : Int)),(7,ti (0:Int))] [] a w := (hst.pick [0,1,2])
 refine hK3 _ _ ?_
 try clear hK3 K3
 obtain ⟨e5,he5,h⟩ := bind_some h
 have hJp24 : ∀ (p24 : Unit) a w,(.inl p24) = e5 → St M w0 16 [] [] a w → K2 a w := by
  intro p24 a w he hst
  subst he
  simp only at h
  refine hK2 _ _ ?_
  try clear hK2 K2
  refine wp_seq_k (fun K26 hK26 => ?_)
  refine wp_reg mixed [] hst (fun _ => .p rfl (op_assign .k) <| .nil _ _) (by kernel_rfl) (fun n7 a w hst => ?_)
  replace hst : St M w0 16 [(2,ti (0:Int))] [] a w := (hst.pick [0])
  refine hK26 _ _ ?_
  try clear hK26 K26
  refine wp_ret ?_
  obtain rfl := sj h
  exact ret_st undef [] hpl hst rfl (.tmp (.t 0 rfl) .nil) rfl rfl rfl
 have hJp25 : ∀ (p25 : Int) a w,(.inr p25) = e5 → St M w0 16 [(2,ti p25)] [] a w → Ret Tryz.prog Tryz.f35 M0 [] w0 (fun _ => []) (fun _ => ti r) .ret a w := by
  intro p25 a w he hst
  subst he
  simp only at h
  obtain rfl := sj h
  exact ret_st undef [] hpl hst rfl (.tmp (.t 0 rfl) .nil) rfl rfl rfl
 refine wp_block ?_
 refine wp_loopK _ (fun (s4 : Int) a w => St M w0 16 [(5,tsl rStyping_fault l_),(6,ti (l_.length : Int)),(7,ti s4)] [] a w) _ _ he5 (hst.pick [0,1,2]) ?_
 clear h
 intro s4 o a w K27 hI h ho hK27
 have hst := hI
 clear hI
 refine wp_seq_k (fun K28 hK28 => ?_)
 refine wp_reg mixed [] hst (fun _ => .p rfl (op_lss (.t 2 rfl) (.t 1 rfl)) <| .nil _ _) (by kernel_rfl) (fun n2 a w hst => ?_)
 replace hst : St M w0 16 [(8,tb (decide (s4 < (l_.length : Int)))),(5,tsl rStyping_fault l_),(6,ti (l_.length : Int)),(7,ti s4)] [] a w := (hst.pick [0,1,2,3])
 refine hK28 _ _ ?_
 try clear hK28 K28
 refine wp_seq_k (fun K29 hK29 => ?_)
 refine wp_test 0 hst rfl (fun b36 => ?_) (fun b36 => ?_)
 ·replace h := ite_t b36 h
  refine wp_skip ?_
  refine hK29 _ _ ?_
  try clear hK29 K29
  refine wp_seq_k (fun K30 hK30 => ?_)
  refine wp_block ?_
  refine wp_seq_k (fun K31 hK31 => ?_)
  obtain ⟨t9,ht9,h⟩ := bind_some h
  refine wp_reg mixed [v1 2 (fun v0 => box (rStyping_fault.cs (Styping_fault.mk false (0:Int))) v0),v1 2 (fun v0 => box (rStyping_fault.cs t9) v0)] hst (fun _ => .p rfl (op_index Tryz.underlying135 tok72 (.t 1 rfl) (.t 3 rfl) ht9) <| .p rfl (op_load tok72 (.t 0 rfl)) <| .m [] [0] rfl rfl rfl (op_alloc (R := rStyping_fault) (a := (Styping_fault.mk false (0:Int))) tok72 zok72) <| .e [] [0] [1] rfl rfl rfl rfl (op_storeB (R := rStyping_fault) (a := t9) tok72 (.t 0 rfl) (.t 1 rfl) (leb rfl)) <| .nil _ _) (by kernel_rfl) (fun n3 a w hst => ?_)
  replace hst : St M w0 16 [(4,tptr (rStyping_fault.cs t9)),(5,tsl rStyping_fault l_),(6,ti (l_.length : Int)),(7,ti s4)] [] a w := ((((hst.pick [2,4,5,6]).shareB 0 rfl).add 0 rfl (fun _ _ _ h => h.2)).pick [0,3,4,5])
  refine hK31 _ _ ?_
  try clear hK31 K31
  refine wp_seq_k (fun K33 hK33 => ?_)
  refine wp_reg mixed [] hst (fun _ => .p rfl (op_field fld72_0 (.t 0 rfl)) <| .p rfl (op_loadT (R := rBool) (u := (t9).is) tok4 (.t 0 rfl) rfl) <| .nil _ _) (by kernel_rfl) (fun n4 a w hst => ?_)
  replace hst : St M w0 16 [(12,tb (t9).is),(4,tptr (rStyping_fault.cs t9)),(5,tsl rStyping_fault l_),(6,ti (l_.length : Int)),(7,ti s4)] [] a w := (hst.pick [1,2,3,4,5])
  refine hK33 _ _ ?_
  try clear hK33 K33
  refine wp_test 0 hst rfl (fun b35 => ?_) (fun b35 => ?_)
  ·replace h := ite_t b35 h
   refine wp_seq_k (fun K34 hK34 => ?_)
   refine wp_reg mixed [] hst (fun _ => .p rfl (op_field fld72_1 (.t 1 rfl)) <| .p rfl (op_loadT (R := rI) (u := (t9).code) tok54 (.t 0 rfl) rfl) <| .p rfl (op_assign (.t 0 rfl)) <| .nil _ _) (by kernel_rfl) (fun n5 a w hst => ?_)
   replace hst : St M w0 16 [(2,ti (t9).code)] [] a w := (hst.pick [2])
   refine hK34 _ _ ?_
   try clear hK34 K34
   refine wp_ret ?_
   exact hJp25 _ _ _ (ho _ (sj h).symm) (hst.pick [0])
  ·replace h := ite_f b35 h
   refine wp_skip ?_
   refine hK30 _ _ ?_
   try clear hK30 K30
   refine wp_reg mixed [] hst (fun _ => .p rfl (op_add (.t 4 rfl) .k) <| .q 0 rfl <| .nil _ _) (by kernel_rfl) (fun n6 a w hst => ?_)
   replace hst : St M w0 16 [(7,ti (IntKind.i64.wrap (s4 + (1:Int)))),(5,tsl rStyping_fault l_),(6,ti (l_.length : Int))] [] a w := (hst.pick [1,4,5])
   exact hK27 _ _ _ (sj h).symm (hst.pick [1,2,0])
 ·replace h := ite_f b36 h
  refine wp_exit ?_
  exact hJp24 _ _ _ (ho _ (sj h).symm) (hst.pick [])

/- diorama/typing.kind -/
noncomputable def ftyping_kind (x_ : Sapi_Schema) (i_ : Int) : Option (Int) := (idx (x_).Kinds i_).bind fun t9 => (ftyping_Kind x_ (t9).Name).bind fun t14 => (opt ((((t9).Fields.length : Int) == (0:Int)) == false) (idx (t9).Fields (0:Int)) default).bind fun t25 => (ftyping_first [(Styping_fault.mk (decide (t14 < i_)) (7:Int)),(Styping_fault.mk ((((t9).Fields.length : Int) == (0:Int)) || ((t25).Kind != (0:Int))) (11:Int))]).bind fun t32 => (some t32)
set_option maxRecDepth 100000 in
set_option maxHeartbeats 4000000 in
theorem typing_kind_ok {x_ : Sapi_Schema} {i_ : Int} {r : Int} (h : ftyping_kind x_ i_ = some r) : FnOk Tryz.prog 36 [rSapi_Schema.ty x_,ti i_] [] (fun _ => []) (fun _ => ti r) := by
 unfold ftyping_kind at h
 refine FnOk.enter Tryz.func36 rfl Tryz.ntmps36 (leb rfl) (fun M0 M w0 a hpl hst => ?_)
 replace hst : St M w0 33 [(0,rSapi_Schema.ty x_),(1,ti i_)] [] a w0 := hst
 refine wp_seq_k (fun K1 hK1 => ?_)
 refine wp_reg mixed [] hst (fun _ => .p rfl (op_boxR (R := rSapi_Schema) (u := x_) (.t 0 rfl)) <| .p rfl (op_assign .k) <| .nil _ _) (by kernel_rfl) (fun n0 a w hst => ?_)
 replace hst : St M w0 33 [(2,tptr (rSapi_Schema.cs x_)),(1,ti i_)] [] a w := (hst.pick [0,3])
 refine hK1 _ _ ?_
 try clear hK1 K1
 refine wp_seq_k (fun K2 hK2 => ?_)
 obtain ⟨t9,ht9,h⟩ := bind_some h
 refine wp_reg mixed [v1 5 (fun v0 => box (rSapi_Kind.cs (Sapi_Kind.mk ([] : Str) (0:Int) (0:Int) ([] : (List Sapi_Field)))) v0),v1 5 (fun v0 => box (rSapi_Kind.cs t9) v0)] hst (fun _ => .p rfl (op_field fld34_1 (.t 0 rfl)) <| .p rfl (op_loadT (R := (rSl rSapi_Kind)) (u := (x_).Kinds) tok30 (.t 0 rfl) rfl) <| .q 3 rfl <| .p rfl (op_index Tryz.underlying30 tok47 (.t 1 rfl) (.t 0 rfl) ht9) <| .p rfl (op_load tok47 (.t 0 rfl)) <| .m [] [0] rfl rfl rfl (op_alloc (R := rSapi_Kind) (a := (Sapi_Kind.mk ([] : Str) (0:Int) (0:Int) ([] : (List Sapi_Field)))) tok47 zok47) <| .e [] [0] [1] rfl rfl rfl rfl (op_storeB (R := rSapi_Kind) (a := t9) tok47 (.t 0 rfl) (.t 1 rfl) (leb rfl)) <| .nil _ _) (by kernel_rfl) (fun n1 a w hst => ?_)
 replace hst : St M w0 33 [(5,tptr (rSapi_Kind.cs t9)),(2,tptr (rSapi_Schema.cs x_)),(1,ti i_)] [] a w := ((((hst.pick [5,6,7]).shareB 0 rfl).add 0 rfl (fun _ _ _ h => h.2)).pick [0,3,4])
 refine hK2 _ _ ?_
 try clear hK2 K2
 refine wp_seq_k (fun K4 hK4 => ?_)
 obtain ⟨t14,ht14,h⟩ := bind_some h
 obtain ⟨t25,ht25,h⟩ := bind_some h
 obtain ⟨t32,ht32,h⟩ := bind_some h
 refine wp_reg mixed [] hst (fun _ => .p rfl (op_load tok34 (.t 1 rfl)) <| .p rfl (op_field fld47_0 (.t 1 rfl)) <| .p rfl (op_loadT (R := rS) (u := (t9).Name) tok9 (.t 0 rfl) rfl) <| .p rfl (op_callF call18 (typing_Kind_ok ht14) (.cons (.of (.t 2 rfl)) <| .cons (.of (.t 0 rfl)) <| .nil)) <| .q 6 rfl <| .p rfl (op_lss (.t 1 rfl) (.t 0 rfl)) <| .p (T := rStyping_fault.ty (Styping_fault.mk (decide (t14 < i_)) (7:Int))) rfl (op_build Tryz.underlying72 pl72 zv72 zc72 (.cons (R := rBool) (u := (decide (t14 < i_))) rfl (.t 0 rfl) (leb rfl) <| .cons (R := rI) (u := (7:Int)) rfl .k (leb rfl) <| .nil _)) <| .p rfl (op_field fld47_3 (.t 7 rfl)) <| .p rfl (op_loadT (R := (rSl rSapi_Field)) (u := (t9).Fields) tok45 (.t 0 rfl) rfl) <| .p rfl (op_len Tryz.underlying45 (.t 0 rfl)) <| .p rfl (op_eql (.t 0 rfl) .k) <| .q 0 rfl <| .g rfl rfl (.b 0 rfl) (fun _ => op_field fld47_3 (.t 12 rfl)) <| .g rfl rfl (.b 1 rfl) (fun hc => op_loadT (R := (rSl rSapi_Field)) (u := (t9).Fields) tok45 (.cond (.t 0 rfl) hc) rfl) <| .g rfl rfl (.b 2 rfl) (fun hc => op_index Tryz.underlying45 tok44 (.cond (.t 0 rfl) hc) .k (opt_t ht25 hc)) <| .g rfl rfl (.b 3 rfl) (fun hc => op_field fld44_3 (.cond (.t 0 rfl) hc)) <| .g rfl rfl (.b 4 rfl) (fun hc => op_loadT (R := rI) (u := (t25).Kind) tok3 (.cond (.t 0 rfl) hc) rfl) <| .g rfl rfl (.b 5 rfl) (fun hc => op_neq (.cond (.t 0 rfl) hc) .k) <| .p rfl (op_or (.t 6 rfl) (fun hp => (.cond (.t 0 rfl) (beqF hp)))) <| .p (T := rStyping_fault.ty (Styping_fault.mk ((((t9).Fields.length : Int) == (0:Int)) || ((t25).Kind != (0:Int))) (11:Int))) rfl (op_build Tryz.underlying72 pl72 zv72 zc72 (.cons (R := rBool) (u := ((((t9).Fields.length : Int) == (0:Int)) || ((t25).Kind != (0:Int)))) rfl (.t 0 rfl) (leb rfl) <| .cons (R := rI) (u := (11:Int)) rfl .k (leb rfl) <| .nil _)) <| .p rfl (op_buildSl (R := rStyping_fault) (us := [(Styping_fault.mk (decide (t14 < i_)) (7:Int)),(Styping_fault.mk ((((t9).Fields.length : Int) == (0:Int)) || ((t25).Kind != (0:Int))) (11:Int))]) Tryz.underlying135 tok72 (.cons (.t 13 rfl) <| .cons (.t 0 rfl) <| .nil _) rfl (leb rfl)) <| .p rfl (op_callF call35 (typing_first_ok ht32) (.cons (.of (.t 0 rfl)) <| .nil)) <| .p rfl (op_assign (.t 0 rfl)) <| .nil _ _) (by kernel_rfl) (fun n2 a w hst => ?_)
 replace hst : St M w0 33 [(4,ti t32)] [] a w := (hst.pick [22])
 refine hK4 _ _ ?_
 try clear hK4 K4
 refine wp_ret ?_
 obtain rfl := sj h
 exact ret_st undef [] hpl hst rfl (.tmp (.t 0 rfl) .nil) rfl rfl rfl

/- diorama/typing.rule$1 -/
noncomputable def ftyping_ruleq1 (s_ : Sapi_Rule) (c0_ : Sapi_Rule) : Option (Bool) := (some ((s_).Name == (c0_).Name))
set_option maxRecDepth 100000 in
set_option maxHeartbeats 4000000 in
theorem typing_ruleq1_ok {s_ : Sapi_Rule} {c0_ : Sapi_Rule} {r : Bool} (h : ftyping_ruleq1 s_ c0_ = some r) : FnOk Tryz.prog 88 [rSapi_Rule.ty s_,tptr (rSapi_Rule.cs c0_)] [] (fun _ => []) (fun _ => tb r) := by
 unfold ftyping_ruleq1 at h
 refine FnOk.enter Tryz.func88 rfl Tryz.ntmps88 (leb rfl) (fun M0 M w0 a hpl hst => ?_)
 replace hst : St M w0 9 [(0,rSapi_Rule.ty s_),(1,tptr (rSapi_Rule.cs c0_))] [] a w0 := hst
 refine wp_seq_k (fun K1 hK1 => ?_)
 refine wp_reg mixed [] hst (fun _ => .p rfl (op_boxR (R := rSapi_Rule) (u := s_) (.t 0 rfl)) <| .p rfl (op_assign .k) <| .nil _ _) (by kernel_rfl) (fun n0 a w hst => ?_)
 replace hst : St M w0 9 [(2,tptr (rSapi_Rule.cs s_)),(1,tptr (rSapi_Rule.cs c0_))] [] a w := (hst.pick [0,3])
 refine hK1 _ _ ?_
 try clear hK1 K1
 refine wp_seq_k (fun K2 hK2 => ?_)
 refine wp_reg mixed [] hst (fun _ => .p rfl (op_field fld100_0 (.t 0 rfl)) <| .p rfl (op_loadT (R := rS) (u := (s_).Name) tok9 (.t 0 rfl) rfl) <| .p rfl (op_field fld100_0 (.t 3 rfl)) <| .p rfl (op_loadT (R := rS) (u := (c0_).Name) tok9 (.t 0 rfl) rfl) <| .p rfl (op_eqlS (.t 2 rfl) (.t 0 rfl)) <| .p rfl (op_assign (.t 0 rfl)) <| .nil _ _) (by kernel_rfl) (fun n1 a w hst => ?_)
 replace hst : St M w0 9 [(3,tb ((s_).Name == (c0_).Name))] [] a w := (hst.pick [5])
 refine hK2 _ _ ?_
 try clear hK2 K2
 refine wp_ret ?_
 obtain rfl := sj h
 exact ret_st undef [] hpl hst rfl (.tmp (.t 0 rfl) .nil) rfl rfl rfl

/- diorama/typing.rule -/
noncomputable def ftyping_rule (x_ : Sapi_Schema) (i_ : Int) : Option (Int) := (idx (x_).Rules i_).bind fun t17 => (sub (x_).Rules (0:Int) i_).bind fun t22 => (fslices_ContainsFunc_Rule t22 (fun x0 => ftyping_ruleq1 x0 t17)).bind fun t24 => (ftyping_Kind x_ (t17).Kind).bind fun t28 => (tailrec (fun (s9 : Int × Bool × Bool) => ((if (decide (s9.1 < ([(t17).A,(t17).B].length : Int))) = true then ((idx [(t17).A,(t17).B] s9.1).bind fun t39 => (if ((t39 == ([] : Str)) || (decide (t28 < (0:Int)))) = true then (some (s9.2.1,s9.2.2)) else (idx (x_).Kinds t28).bind fun t53 => (ftyping_Field t53 t39).bind fun t56 => (ftyping_at x_ t28 t56).bind fun t57 => (some ((s9.2.1 || (!t57.2)),(s9.2.2 || (((t57.1).Kind != (2:Int)) && ((t57.1).Kind != (4:Int)))))))).bind fun (p55 : Bool × Bool) => (some (.inl ((IntKind.i64.wrap (s9.1 + (1:Int))),p55.1,p55.2))) else (some (.inr (s9.2.1,s9.2.2)))) : Option ((Int × Bool × Bool) ⊕ ((Bool × Bool))))) ((0:Int),(decide (t28 < (0:Int))),false)).bind fun (p49 : (Bool × Bool)) => (ftyping_first [(Styping_fault.mk t24 (7:Int)),(Styping_fault.mk p49.1 (12:Int)),(Styping_fault.mk p49.2 (13:Int)),(Styping_fault.mk ((t17).A == (t17).B) (1:Int))]).bind fun t90 => (some t90)
set_option maxRecDepth 100000 in
set_option maxHeartbeats 4000000 in
theorem typing_rule_ok {x_ : Sapi_Schema} {i_ : Int} {r : Int} (h : ftyping_rule x_ i_ = some r) : FnOk Tryz.prog 37 [rSapi_Schema.ty x_,ti i_] [] (fun _ => []) (fun _ => ti r) := by
 unfold ftyping_rule at h
 refine FnOk.enter Tryz.func37 rfl Tryz.ntmps37 (leb rfl) (fun M0 M w0 a hpl hst => ?_)
 replace hst : St M w0 91 [(0,rSapi_Schema.ty x_),(1,ti i_)] [] a w0 := hst
 refine wp_seq_k (fun K1 hK1 => ?_)
 refine wp_reg mixed [] hst (fun _ => .p rfl (op_boxR (R := rSapi_Schema) (u := x_) (.t 0 rfl)) <| .p rfl (op_assign .k) <| .nil _ _) (by kernel_rfl) (fun n0 a w hst => ?_)
 replace hst : St M w0 91 [(2,tptr (rSapi_Schema.cs x_)),(1,ti i_)] [] a w := (hst.pick [0,3])
 refine hK1 _ _ ?_
 try clear hK1 K1
 refine wp_seq_k (fun K2 hK2 => ?_)
 obtain ⟨t17,ht17,h⟩ := bind_some h
 refine wp_reg mixed [v1 5 (fun v0 => box (rSapi_Rule.cs (Sapi_Rule.mk ([] : Str) ([] : Str) ([] : Str) ([] : Str) (0:Int))) v0),v1 5 (fun v0 => box (rSapi_Rule.cs t17) v0)] hst (fun _ => .p rfl (op_field fld34_3 (.t 0 rfl)) <| .p rfl (op_loadT (R := (rSl rSapi_Rule)) (u := (x_).Rules) tok32 (.t 0 rfl) rfl) <| .q 3 rfl <| .p rfl (op_index Tryz.underlying32 tok100 (.t 1 rfl) (.t 0 rfl) ht17) <| .p rfl (op_load tok100 (.t 0 rfl)) <| .m [] [0] rfl rfl rfl (op_alloc (R := rSapi_Rule) (a := (Sapi_Rule.mk ([] : Str) ([] : Str) ([] : Str) ([] : Str) (0:Int))) tok100 zok100) <| .e [] [0] [1] rfl rfl rfl rfl (op_storeB (R := rSapi_Rule) (a := t17) tok100 (.t 0 rfl) (.t 1 rfl) (leb rfl)) <| .nil _ _) (by kernel_rfl) (fun n1 a w hst => ?_)
 replace hst : St M w0 91 [(5,tptr (rSapi_Rule.cs t17)),(2,tptr (rSapi_Schema.cs x_)),(1,ti i_)] [] a w := ((((hst.pick [5,6,7]).shareB 0 rfl).add 0 rfl (fun _ _ _ h => h.2)).pick [0,3,4])
 refine hK2 _ _ ?_
 try clear hK2 K2
 refine wp_seq_k (fun K4 hK4 => ?_)
 obtain ⟨t22,ht22,h⟩ := bind_some h
 obtain ⟨t24,ht24,h⟩ := bind_some h
 refine wp_reg mixed [] hst (fun _ => .p rfl (op_field fld34_3 (.t 1 rfl)) <| .p rfl (op_loadT (R := (rSl rSapi_Rule)) (u := (x_).Rules) tok32 (.t 0 rfl) rfl) <| .q 4 rfl <| .p rfl (op_slice Tryz.underlying32 tok100 (.t 1 rfl) (.no _) (.op (.t 0 rfl)) ht22) <| .p rfl (op_clo (.cons (.t 4 rfl) <| .nil)) <| .p rfl (op_callF call87 (slices_ContainsFunc_Rule_ok ht24) (.cons (.of (.t 1 rfl)) <| .cons (.of (Fct.weak (.t 0 rfl) (tfn_of call88 (fun _ _ hq => typing_ruleq1_ok hq)))) <| .nil)) <| .p rfl (op_assign (.t 0 rfl)) <| .nil _ _) (by kernel_rfl) (fun n2 a w hst => ?_)
 replace hst : St M w0 91 [(6,tb t24),(5,tptr (rSapi_Rule.cs t17)),(2,tptr (rSapi_Schema.cs x_))] [] a w := (hst.pick [6,7,8])
 refine hK4 _ _ ?_
 try clear hK4 K4
 refine wp_seq_k (fun K5 hK5 => ?_)
 obtain ⟨t28,ht28,h⟩ := bind_some h
 refine wp_reg mixed [] hst (fun _ => .p rfl (op_load tok34 (.t 2 rfl)) <| .p rfl (op_field fld100_1 (.t 2 rfl)) <| .p rfl (op_loadT (R := rS) (u := (t17).Kind) tok9 (.t 0 rfl) rfl) <| .p rfl (op_callF call18 (typing_Kind_ok ht28) (.cons (.of (.t 2 rfl)) <| .cons (.of (.t 0 rfl)) <| .nil)) <| .p rfl (op_assign (.t 0 rfl)) <| .nil _ _) (by kernel_rfl) (fun n3 a w hst => ?_)
 replace hst : St M w0 91 [(7,ti t28),(6,tb t24),(5,tptr (rSapi_Rule.cs t17)),(2,tptr (rSapi_Schema.cs x_))] [] a w := (hst.pick [4,5,6,7])
 refine hK5 _ _ ?_
 try clear hK5 K5
 refine wp_seq_k (fun K6 hK6 => ?_)
 refine wp_reg mixed [] hst (fun _ => .q 0 rfl <| .p rfl (op_lss (.t 0 rfl) .k) <| .p rfl (op_assign (.t 0 rfl)) <| .p rfl (op_assign .k) <| .nil _ _) (by kernel_rfl) (fun n4 a w hst => ?_)
 replace hst : St M w0 91 [(8,tb (decide (t28 < (0:Int)))),(9,tb false),(7,ti t28),(6,tb t24),(5,tptr (rSapi_Rule.cs t17)),(2,tptr (rSapi_Schema.cs x_))] [] a w := (hst.pick [2,3,4,5,6,7])
 refine hK6 _ _ ?_
 try clear hK6 K6
 refine wp_seq_k (fun K7 hK7 => ?_)
 refine wp_seq_k (fun K8 hK8 => ?_)
 refine wp_reg mixed [] hst (fun _ => .p rfl (op_field fld100_2 (.t 4 rfl)) <| .p rfl (op_loadT (R := rS) (u := (t17).A) tok9 (.t 0 rfl) rfl) <| .p rfl (op_field fld100_3 (.t 6 rfl)) <| .p rfl (op_loadT (R := rS) (u := (t17).B) tok9 (.t 0 rfl) rfl) <| .p rfl (op_buildSl (R := rS) (us := [(t17).A,(t17).B]) Tryz.underlying38 tok9 (.cons (.t 2 rfl) <| .cons (.t 0 rfl) <| .nil _) rfl (leb rfl)) <| .p rfl (op_len Tryz.underlying38 (.t 0 rfl)) <| .p rfl (op_move .k) <| .nil _ _) (by kernel_rfl) (fun n5 a w hst => ?_)
 replace hst : St M w0 91 [(35,tsl rS [(t17).A,(t17).B]),(36,ti ([(t17).A,(t17).B].length : Int)),(37,ti (0:Int)),(8,tb (decide (t28 < (0:Int)))),(9,tb false),(7,ti t28),(6,tb t24),(5,tptr (rSapi_Rule.cs t17)),(2,tptr (rSapi_Schema.cs x_))] [] a w := (hst.pick [4,5,6,7,8,9,10,11,12])
 refine hK8 _ _ ?_
 try clear hK8 K8
 obtain ⟨e10,he10,h⟩ := bind_some h
 have hJp49 : ∀ (p49 : Bool × Bool) a w,p49 = e10 → St M w0 91 [(8,tb p49.1),(9,tb p49.2),(6,tb t24),(5,tptr (rSapi_Rule.cs t17))] [] a w → K7 a w := by
  intro p49 a w he hst
  subst he
  refine hK7 _ _ ?_
  try clear hK7 K7
  refine wp_seq_k (fun K50 hK50 => ?_)
  obtain ⟨t90,ht90,h⟩ := bind_some h
  refine wp_reg mixed [] hst (fun _ => .q 2 rfl <| .p (T := rStyping_fault.ty (Styping_fault.mk t24 (7:Int))) rfl (op_build Tryz.underlying72 pl72 zv72 zc72 (.cons (R := rBool) (u := t24) rfl (.t 0 rfl) (leb rfl) <| .cons (R := rI) (u := (7:Int)) rfl .k (leb rfl) <| .nil _)) <| .q 2 rfl <| .p (T := rStyping_fault.ty (Styping_fault.mk p49.1 (12:Int))) rfl (op_build Tryz.underlying72 pl72 zv72 zc72 (.cons (R := rBool) (u := p49.1) rfl (.t 0 rfl) (leb rfl) <| .cons (R := rI) (u := (12:Int)) rfl .k (leb rfl) <| .nil _)) <| .q 5 rfl <| .p (T := rStyping_fault.ty (Styping_fault.mk p49.2 (13:Int))) rfl (op_build Tryz.underlying72 pl72 zv72 zc72 (.cons (R := rBool) (u := p49.2) rfl (.t 0 rfl) (leb rfl) <| .cons (R := rI) (u := (13:Int)) rfl .k (leb rfl) <| .nil _)) <| .p rfl (op_field fld100_2 (.t 9 rfl)) <| .p rfl (op_loadT (R := rS) (u := (t17).A) tok9 (.t 0 rfl) rfl) <| .p rfl (op_field fld100_3 (.t 11 rfl)) <| .p rfl (op_loadT (R := rS) (u := (t17).B) tok9 (.t 0 rfl) rfl) <| .p rfl (op_eqlS (.t 2 rfl) (.t 0 rfl)) <| .p (T := rStyping_fault.ty (Styping_fault.mk ((t17).A == (t17).B) (1:Int))) rfl (op_build Tryz.underlying72 pl72 zv72 zc72 (.cons (R := rBool) (u := ((t17).A == (t17).B)) rfl (.t 0 rfl) (leb rfl) <| .cons (R := rI) (u := (1:Int)) rfl .k (leb rfl) <| .nil _)) <| .p rfl (op_buildSl (R := rStyping_fault) (us := [(Styping_fault.mk t24 (7:Int)),(Styping_fault.mk p49.1 (12:Int)),(Styping_fault.mk p49.2 (13:Int)),(Styping_fault.mk ((t17).A == (t17).B) (1:Int))]) Tryz.underlying135 tok72 (.cons (.t 10 rfl) <| .cons (.t 8 rfl) <| .cons (.t 6 rfl) <| .cons (.t 0 rfl) <| .nil _) rfl (leb rfl)) <| .p rfl (op_callF call35 (typing_first_ok ht90) (.cons (.of (.t 0 rfl)) <| .nil)) <| .p rfl (op_assign (.t 0 rfl)) <| .nil _ _) (by kernel_rfl) (fun n13 a w hst => ?_)
  replace hst : St M w0 91 [(4,ti t90)] [] a w := (hst.pick [14])
  refine hK50 _ _ ?_
  try clear hK50 K50
  refine wp_ret ?_
  obtain rfl := sj h
  exact ret_st undef [] hpl hst rfl (.tmp (.t 0 rfl) .nil) rfl rfl rfl
 refine wp_block ?_
 refine wp_loopK _ (fun (s9 : Int × Bool × Bool) a w => St M w0 91 [(35,tsl rS [(t17).A,(t17).B]),(36,ti ([(t17).A,(t17).B].length : Int)),(37,ti s9.1),(8,tb s9.2.1),(9,tb s9.2.2),(7,ti t28),(6,tb t24),(5,tptr (rSapi_Rule.cs t17)),(2,tptr (rSapi_Schema.cs x_))] [] a w) _ _ he10 (hst.pick [0,1,2,3,4,5,6,7,8]) ?_
 clear h
 intro s9 o a w K51 hI h ho hK51
 have hst := hI
 clear hI
 refine wp_seq_k (fun K52 hK52 => ?_)
 refine wp_reg mixed [] hst (fun _ => .p rfl (op_lss (.t 2 rfl) (.t 1 rfl)) <| .nil _ _) (by kernel_rfl) (fun n6 a w hst => ?_)
 replace hst : St M w0 91 [(38,tb (decide (s9.1 < ([(t17).A,(t17).B].length : Int)))),(35,tsl rS [(t17).A,(t17).B]),(36,ti ([(t17).A,(t17).B].length : Int)),(37,ti s9.1),(8,tb s9.2.1),(9,tb s9.2.2),(7,ti t28),(6,tb t24),(5,tptr (rSapi_Rule.cs t17)),(2,tptr (rSapi_Schema.cs x_))] [] a w := (hst.pick [0,1,2,3,4,5,6,7,8,9])
 refine hK52 _ _ ?_
 try clear hK52 K52
 refine wp_seq_k (fun K53 hK53 => ?_)
 refine wp_test 0 hst rfl (fun b70 => ?_) (fun b70 => ?_)
 ·replace h := ite_t b70 h
  refine wp_skip ?_
  refine hK53 _ _ ?_
  try clear hK53 K53
  refine wp_seq_k (fun K54 hK54 => ?_)
  obtain ⟨p55,hp55,h⟩ := bind_some h
  have hJp55 : ∀ a w,St M w0 91 [(35,tsl rS [(t17).A,(t17).B]),(36,ti ([(t17).A,(t17).B].length : Int)),(37,ti s9.1),(8,tb p55.1),(9,tb p55.2),(7,ti t28),(6,tb t24),(5,tptr (rSapi_Rule.cs t17)),(2,tptr (rSapi_Schema.cs x_))] [] a w → K54 a w := by
   intro a w hst
   refine hK54 _ _ ?_
   try clear hK54 K54
   refine wp_reg mixed [] hst (fun _ => .p rfl (op_add (.t 2 rfl) .k) <| .q 0 rfl <| .nil _ _) (by kernel_rfl) (fun n12 a w hst => ?_)
   replace hst : St M w0 91 [(37,ti (IntKind.i64.wrap (s9.1 + (1:Int)))),(35,tsl rS [(t17).A,(t17).B]),(36,ti ([(t17).A,(t17).B].length : Int)),(8,tb p55.1),(9,tb p55.2),(7,ti t28),(6,tb t24),(5,tptr (rSapi_Rule.cs t17)),(2,tptr (rSapi_Schema.cs x_))] [] a w := (hst.pick [1,2,3,4,5,6,7,8,9])
   exact hK51 _ _ _ (sj h).symm (hst.pick [1,2,0,3,4,5,6,7,8])
  replace h := hp55
  clear hp55
  refine wp_block ?_
  refine wp_seq_k (fun K63 hK63 => ?_)
  obtain ⟨t39,ht39,h⟩ := bind_some h
  refine wp_reg mixed [] hst (fun _ => .p rfl (op_index Tryz.underlying38 tok9 (.t 1 rfl) (.t 3 rfl) ht39) <| .p rfl (op_load tok9 (.t 0 rfl)) <| .p rfl (op_assign (.t 0 rfl)) <| .nil _ _) (by kernel_rfl) (fun n7 a w hst => ?_)
  replace hst : St M w0 91 [(11,tv (.string (sB t39))),(35,tsl rS [(t17).A,(t17).B]),(36,ti ([(t17).A,(t17).B].length : Int)),(37,ti s9.1),(8,tb s9.2.1),(9,tb s9.2.2),(7,ti t28),(6,tb t24),(5,tptr (rSapi_Rule.cs t17)),(2,tptr (rSapi_Schema.cs x_))] [] a w := (hst.pick [2,4,5,6,7,8,9,10,11,12])
  refine hK63 _ _ ?_
  try clear hK63 K63
  refine wp_seq_k (fun K64 hK64 => ?_)
  refine wp_seq_k (fun K65 hK65 => ?_)
  refine wp_reg mixed [] hst (fun _ => .q 0 rfl <| .p rfl (op_eqlS (.t 0 rfl) .k) <| .q 0 rfl <| .g rfl rfl (.b 0 rfl) (fun _ => op_move (.t 9 rfl)) <| .g rfl rfl (.b 1 rfl) (fun hc => op_lss (.cond (.t 0 rfl) hc) .k) <| .p rfl (op_or (.t 2 rfl) (fun hp => (.cond (.t 0 rfl) (beqF hp)))) <| .nil _ _) (by kernel_rfl) (fun n8 a w hst => ?_)
  replace hst : St M w0 91 [(46,tb ((t39 == ([] : Str)) || (decide (t28 < (0:Int))))),(11,tv (.string (sB t39))),(35,tsl rS [(t17).A,(t17).B]),(36,ti ([(t17).A,(t17).B].length : Int)),(37,ti s9.1),(8,tb s9.2.1),(9,tb s9.2.2),(7,ti t28),(6,tb t24),(5,tptr (rSapi_Rule.cs t17)),(2,tptr (rSapi_Schema.cs x_))] [] a w := (hst.pick [5,6,7,8,9,10,11,12,13,14,15])
  refine hK65 _ _ ?_
  try clear hK65 K65
  refine wp_test 0 hst rfl (fun b69 => ?_) (fun b69 => ?_)
  ·replace h := ite_t b69 h
   refine wp_exit ?_
   obtain rfl := sj h
   exact hJp55 _ _ (hst.pick [2,3,4,5,6,7,8,9,10])
  ·replace h := ite_f b69 h
   refine wp_skip ?_
   refine hK64 _ _ ?_
   try clear hK64 K64
   refine wp_seq_k (fun K66 hK66 => ?_)
   obtain ⟨t53,ht53,h⟩ := bind_some h
   obtain ⟨t56,ht56,h⟩ := bind_some h
   obtain ⟨t57,ht57,h⟩ := bind_some h
   refine wp_reg mixed [v1 13 (fun v0 => box (rSapi_Field.cs (Sapi_Field.mk ([] : Str) ([] : Str) ([] : Str) (0:Int) (0:Int) (0:Int) ([] : (List Str)) ([] : (List Int)))) v0),v1 13 (fun v0 => box (rSapi_Field.cs t57.1) v0)] hst (fun _ => .p rfl (op_load tok34 (.t 10 rfl)) <| .q 8 rfl <| .p rfl (op_field fld34_1 (.t 12 rfl)) <| .p rfl (op_loadT (R := (rSl rSapi_Kind)) (u := (x_).Kinds) tok30 (.t 0 rfl) rfl) <| .q 11 rfl <| .p rfl (op_index Tryz.underlying30 tok47 (.t 1 rfl) (.t 0 rfl) ht53) <| .p rfl (op_load tok47 (.t 0 rfl)) <| .q 8 rfl <| .p rfl (op_callF call20 (typing_Field_ok ht56) (.cons (.of (.t 1 rfl)) <| .cons (.of (.t 0 rfl)) <| .nil)) <| .p rfl (op_callF call44 (typing_at_ok ht57) (.cons (.of (.t 8 rfl)) <| .cons (.of (.t 7 rfl)) <| .cons (.of (.t 0 rfl)) <| .nil)) <| .q 0 rfl <| .p rfl (op_extract (.t 0 rfl) rfl) <| .p rfl (op_extract (.t 1 rfl) rfl) <| .m [] [0] rfl rfl rfl (op_alloc (R := rSapi_Field) (a := (Sapi_Field.mk ([] : Str) ([] : Str) ([] : Str) (0:Int) (0:Int) (0:Int) ([] : (List Str)) ([] : (List Int)))) tok44 zok44) <| .e [] [0] [1] rfl rfl rfl rfl (op_storeB (R := rSapi_Field) (a := t57.1) tok44 (.t 0 rfl) (.t 2 rfl) (leb rfl)) <| .p rfl (op_assign (.t 1 rfl)) <| .nil _ _) (by kernel_rfl) (fun n9 a w hst => ?_)
   replace hst : St M w0 91 [(12,tptr (rSapi_Field.cs t57.1)),(13,tb t57.2),(35,tsl rS [(t17).A,(t17).B]),(36,ti ([(t17).A,(t17).B].length : Int)),(37,ti s9.1),(8,tb s9.2.1),(9,tb s9.2.2),(7,ti t28),(6,tb t24),(5,tptr (rSapi_Rule.cs t17)),(2,tptr (rSapi_Schema.cs x_))] [] a w := ((((hst.pick [13,14,17,18,19,20,21,22,23,24,25]).shareB 0 rfl).add 0 rfl (fun _ _ _ h => h.2)).pick [0,3,4,5,6,7,8,9,10,11,12])
   refine hK66 _ _ ?_
   try clear hK66 K66
   refine wp_seq_k (fun K68 hK68 => ?_)
   refine wp_reg mixed [] hst (fun _ => .q 5 rfl <| .q 0 rfl <| .g rfl rfl (.b 0 rfl) (fun _ => op_move (.t 3 rfl)) <| .g rfl rfl (.b 1 rfl) (fun hc => op_not (.cond (.t 0 rfl) hc)) <| .p rfl (op_or (.t 2 rfl) (fun hp => (.cond (.t 0 rfl) (beqF hp)))) <| .p rfl (op_assign (.t 0 rfl)) <| .nil _ _) (by kernel_rfl) (fun n10 a w hst => ?_)
   replace hst : St M w0 91 [(8,tb (s9.2.1 || (!t57.2))),(12,tptr (rSapi_Field.cs t57.1)),(35,tsl rS [(t17).A,(t17).B]),(36,ti ([(t17).A,(t17).B].length : Int)),(37,ti s9.1),(9,tb s9.2.2),(7,ti t28),(6,tb t24),(5,tptr (rSapi_Rule.cs t17)),(2,tptr (rSapi_Schema.cs x_))] [] a w := (hst.pick [5,6,8,9,10,11,12,13,14,15])
   refine hK68 _ _ ?_
   try clear hK68 K68
   refine wp_reg mixed [] hst (fun _ => .q 5 rfl <| .q 0 rfl <| .g rfl rfl (.b 0 rfl) (fun _ => op_field fld44_3 (.t 3 rfl)) <| .g rfl rfl (.b 1 rfl) (fun hc => op_loadT (R := rI) (u := (t57.1).Kind) tok3 (.cond (.t 0 rfl) hc) rfl) <| .g rfl rfl (.b 2 rfl) (fun hc => op_neq (.cond (.t 0 rfl) hc) .k) <| .g rfl rfl (.b 3 rfl) (fun hc => op_move (.cond (.t 0 rfl) hc)) <| .g rfl rfl (.c 0 rfl) (fun _ => op_field fld44_3 (.t 7 rfl)) <| .g rfl rfl (.c 1 rfl) (fun hc => op_loadT (R := rI) (u := (t57.1).Kind) tok3 (.cond (.t 0 rfl) hc) rfl) <| .g rfl rfl (.c 2 rfl) (fun hc => op_neq (.cond (.t 0 rfl) hc) .k) <| .g rfl rfl (.b 7 rfl) (fun hc => op_and (.cond (.t 3 rfl) hc) (fun hp => (.cond (.t 0 rfl) (band_mk hc (beqT hp))))) <| .p rfl (op_or (.t 8 rfl) (fun hp => (.cond (.t 0 rfl) (beqF hp)))) <| .p rfl (op_assign (.t 0 rfl)) <| .nil _ _) (by kernel_rfl) (fun n11 a w hst => ?_)
   replace hst : St M w0 91 [(9,tb (s9.2.2 || (((t57.1).Kind != (2:Int)) && ((t57.1).Kind != (4:Int))))),(8,tb (s9.2.1 || (!t57.2))),(35,tsl rS [(t17).A,(t17).B]),(36,ti ([(t17).A,(t17).B].length : Int)),(37,ti s9.1),(7,ti t28),(6,tb t24),(5,tptr (rSapi_Rule.cs t17)),(2,tptr (rSapi_Schema.cs x_))] [] a w := (hst.pick [11,12,14,15,16,17,18,19,20])
   obtain rfl := sj h
   exact hJp55 _ _ (hst.pick [2,3,4,1,0,5,6,7,8])
 ·replace h := ite_f b70 h
  refine wp_exit ?_
  exact hJp49 _ _ _ (ho _ (sj h).symm) (hst.pick [4,5,7,8])

/- diorama/typing.checks$1 -/
noncomputable def ftyping_checksq1 (s_ : Styping_spot) : Option (Int) := (ftyping_first [(Styping_fault.mk (decide ((s_).field > (0:Int))) (13:Int))]).bind fun t8 => (some t8)
set_option maxRecDepth 100000 in
set_option maxHeartbeats 4000000 in
theorem typing_checksq1_ok {s_ : Styping_spot} {r : Int} (h : ftyping_checksq1 s_ = some r) : FnOk Tryz.prog 196 [rStyping_spot.ty s_] [] (fun _ => []) (fun _ => ti r) := by
 unfold ftyping_checksq1 at h
 refine FnOk.enter Tryz.func196 rfl Tryz.ntmps196 (leb rfl) (fun M0 M w0 a hpl hst => ?_)
 replace hst : St M w0 9 [(0,rStyping_spot.ty s_)] [] a w0 := hst
 refine wp_seq_k (fun K1 hK1 => ?_)
 refine wp_reg mixed [] hst (fun _ => .p rfl (op_boxR (R := rStyping_spot) (u := s_) (.t 0 rfl)) <| .p rfl (op_assign .k) <| .nil _ _) (by kernel_rfl) (fun n0 a w hst => ?_)
 replace hst : St M w0 9 [(1,tptr (rStyping_spot.cs s_))] [] a w := (hst.pick [0])
 refine hK1 _ _ ?_
 try clear hK1 K1
 refine wp_seq_k (fun K2 hK2 => ?_)
 obtain ⟨t8,ht8,h⟩ := bind_some h
 refine wp_reg mixed [] hst (fun _ => .p rfl (op_field fld79_2 (.t 0 rfl)) <| .p rfl (op_loadT (R := rI) (u := (s_).field) tok3 (.t 0 rfl) rfl) <| .p rfl (op_gtr (.t 0 rfl) .k) <| .p (T := rStyping_fault.ty (Styping_fault.mk (decide ((s_).field > (0:Int))) (13:Int))) rfl (op_build Tryz.underlying72 pl72 zv72 zc72 (.cons (R := rBool) (u := (decide ((s_).field > (0:Int)))) rfl (.t 0 rfl) (leb rfl) <| .cons (R := rI) (u := (13:Int)) rfl .k (leb rfl) <| .nil _)) <| .p rfl (op_buildSl (R := rStyping_fault) (us := [(Styping_fault.mk (decide ((s_).field > (0:Int))) (13:Int))]) Tryz.underlying135 tok72 (.cons (.t 0 rfl) <| .nil _) rfl (leb rfl)) <| .p rfl (op_callF call35 (typing_first_ok ht8) (.cons (.of (.t 0 rfl)) <| .nil)) <| .p rfl (op_assign (.t 0 rfl)) <| .nil _ _) (by kernel_rfl) (fun n1 a w hst => ?_)
 replace hst : St M w0 9 [(2,ti t8)] [] a w := (hst.pick [6])
 refine hK2 _ _ ?_
 try clear hK2 K2
 refine wp_ret ?_
 obtain rfl := sj h
 exact ret_st undef [] hpl hst rfl (.tmp (.t 0 rfl) .nil) rfl rfl rfl

/- (diorama/typing.spot).lost -/
noncomputable def ftyping_spot_lost (s_ : Styping_spot) : Option (Bool) := (ftyping_Up (s_).x (s_).kind (s_).field).bind fun t9 => (some (decide (t9 < (0:Int))))
set_option maxRecDepth 100000 in
set_option maxHeartbeats 4000000 in
theorem typing_spot_lost_ok {s_ : Styping_spot} {r : Bool} (h : ftyping_spot_lost s_ = some r) : FnOk Tryz.prog 193 [rStyping_spot.ty s_] [] (fun _ => []) (fun _ => tb r) := by
 unfold ftyping_spot_lost at h
 refine FnOk.enter Tryz.func193 rfl Tryz.ntmps193 (leb rfl) (fun M0 M w0 a hpl hst => ?_)
 replace hst : St M w0 11 [(0,rStyping_spot.ty s_)] [] a w0 := hst
 refine wp_seq_k (fun K1 hK1 => ?_)
 refine wp_reg mixed [] hst (fun _ => .p rfl (op_boxR (R := rStyping_spot) (u := s_) (.t 0 rfl)) <| .p rfl (op_assign .k) <| .nil _ _) (by kernel_rfl) (fun n0 a w hst => ?_)
 replace hst : St M w0 11 [(1,tptr (rStyping_spot.cs s_))] [] a w := (hst.pick [0])
 refine hK1 _ _ ?_
 try clear hK1 K1
 refine wp_seq_k (fun K2 hK2 => ?_)
 obtain ⟨t9,ht9,h⟩ := bind_some h
 refine wp_reg mixed [] hst (fun _ => .p rfl (op_field fld79_0 (.t 0 rfl)) <| .p rfl (op_loadT (R := rSapi_Schema) (u := (s_).x) tok34 (.t 0 rfl) rfl) <| .p rfl (op_field fld79_1 (.t 2 rfl)) <| .p rfl (op_loadT (R := rI) (u := (s_).kind) tok3 (.t 0 rfl) rfl) <| .p rfl (op_field fld79_2 (.t 4 rfl)) <| .p rfl (op_loadT (R := rI) (u := (s_).field) tok3 (.t 0 rfl) rfl) <| .p rfl (op_callF call15 (typing_Up_ok ht9) (.cons (.of (.t 4 rfl)) <| .cons (.of (.t 2 rfl)) <| .cons (.of (.t 0 rfl)) <| .nil)) <| .p rfl (op_lss (.t 0 rfl) .k) <| .p rfl (op_assign (.t 0 rfl)) <| .nil _ _) (by kernel_rfl) (fun n1 a w hst => ?_)
 replace hst : St M w0 11 [(2,tb (decide (t9 < (0:Int))))] [] a w := (hst.pick [8])
 refine hK2 _ _ ?_
 try clear hK2 K2
 refine wp_ret ?_
 obtain rfl := sj h
 exact ret_st undef [] hpl hst rfl (.tmp (.t 0 rfl) .nil) rfl rfl rfl

/- diorama/typing.checks$2 -/
noncomputable def ftyping_checksq2 (s_ : Styping_spot) : Option (Int) := (ftyping_spot_lost s_).bind fun t4 => (ftyping_first [(Styping_fault.mk t4 (12:Int))]).bind fun t7 => (some t7)
set_option maxRecDepth 100000 in
set_option maxHeartbeats 4000000 in
theorem typing_checksq2_ok {s_ : Styping_spot} {r : Int} (h : ftyping_checksq2 s_ = some r) : FnOk Tryz.prog 197 [rStyping_spot.ty s_] [] (fun _ => []) (fun _ => ti r) := by
 unfold ftyping_checksq2 at h
 refine FnOk.enter Tryz.func197 rfl Tryz.ntmps197 (leb rfl) (fun M0 M w0 a hpl hst => ?_)
 replace hst : St M w0 8 [(0,rStyping_spot.ty s_)] [] a w0 := hst
 refine wp_seq_k (fun K1 hK1 => ?_)
 refine wp_reg mixed [] hst (fun _ => .p rfl (op_boxR (R := rStyping_spot) (u := s_) (.t 0 rfl)) <| .p rfl (op_assign .k) <| .nil _ _) (by kernel_rfl) (fun n0 a w hst => ?_)
 replace hst : St M w0 8 [(1,tptr (rStyping_spot.cs s_))] [] a w := (hst.pick [0])
 refine hK1 _ _ ?_
 try clear hK1 K1
 refine wp_seq_k (fun K2 hK2 => ?_)
 obtain ⟨t4,ht4,h⟩ := bind_some h
 obtain ⟨t7,ht7,h⟩ := bind_some h
 refine wp_reg mixed [] hst (fun _ => .p rfl (op_load tok79 (.t 0 rfl)) <| .p rfl (op_callF call193 (typing_spot_lost_ok ht4) (.cons (.of (.t 0 rfl)) <| .nil)) <| .p (T := rStyping_fault.ty (Styping_fault.mk t4 (12:Int))) rfl (op_build Tryz.underlying72 pl72 zv72 zc72 (.cons (R := rBool) (u := t4) rfl (.t 0 rfl) (leb rfl) <| .cons (R := rI) (u := (12:Int)) rfl .k (leb rfl) <| .nil _)) <| .p rfl (op_buildSl (R := rStyping_fault) (us := [(Styping_fault.mk t4 (12:Int))]) Tryz.underlying135 tok72 (.cons (.t 0 rfl) <| .nil _) rfl (leb rfl)) <| .p rfl (op_callF call35 (typing_first_ok ht7) (.cons (.of (.t 0 rfl)) <| .nil)) <| .p rfl (op_assign (.t 0 rfl)) <| .nil _ _) (by kernel_rfl) (fun n1 a w hst => ?_)
 replace hst : St M w0 8 [(2,ti t7)] [] a w := (hst.pick [5])
 refine hK2 _ _ ?_
 try clear hK2 K2
 refine wp_ret ?_
 obtain rfl := sj h
 exact ret_st undef [] hpl hst rfl (.tmp (.t 0 rfl) .nil) rfl rfl rfl

/- diorama/typing.checks$3 -/
noncomputable def ftyping_checksq3 (s_ : Styping_spot) : Option (Int) := (idx ((s_).x).Kinds (s_).kind).bind fun t11 => (ftyping_Field t11 ((s_).f).Of).bind fun t16 => (ftyping_at (s_).x (s_).kind t16).bind fun t23 => (ftyping_first [(Styping_fault.mk ((((s_).f).Of != ([] : Str)) && (((decide (t16 < (0:Int))) || (decide (t16 ≥ (s_).field))) || ((t23.1).Kind != (4:Int)))) (12:Int))]).bind fun t47 => (some t47)
set_option maxRecDepth 100000 in
set_option maxHeartbeats 4000000 in
theorem typing_checksq3_ok {s_ : Styping_spot} {r : Int} (h : ftyping_checksq3 s_ = some r) : FnOk Tryz.prog 198 [rStyping_spot.ty s_] [] (fun _ => []) (fun _ => ti r) := by
 unfold ftyping_checksq3 at h
 refine FnOk.enter Tryz.func198 rfl Tryz.ntmps198 (leb rfl) (fun M0 M w0 a hpl hst => ?_)
 replace hst : St M w0 48 [(0,rStyping_spot.ty s_)] [] a w0 := hst
 refine wp_seq_k (fun K1 hK1 => ?_)
 refine wp_reg mixed [] hst (fun _ => .p rfl (op_boxR (R := rStyping_spot) (u := s_) (.t 0 rfl)) <| .p rfl (op_assign .k) <| .nil _ _) (by kernel_rfl) (fun n0 a w hst => ?_)
 replace hst : St M w0 48 [(1,tptr (rStyping_spot.cs s_))] [] a w := (hst.pick [0])
 refine hK1 _ _ ?_
 try clear hK1 K1
 refine wp_seq_k (fun K2 hK2 => ?_)
 obtain ⟨t11,ht11,h⟩ := bind_some h
 obtain ⟨t16,ht16,h⟩ := bind_some h
 refine wp_reg mixed [] hst (fun _ => .p rfl (op_field fld79_0 (.t 0 rfl)) <| .p rfl (op_field fld34_1 (.t 0 rfl)) <| .p rfl (op_loadT (R := (rSl rSapi_Kind)) (u := ((s_).x).Kinds) tok30 (.t 0 rfl) rfl) <| .p rfl (op_field fld79_1 (.t 3 rfl)) <| .p rfl (op_loadT (R := rI) (u := (s_).kind) tok3 (.t 0 rfl) rfl) <| .p rfl (op_index Tryz.underlying30 tok47 (.t 2 rfl) (.t 0 rfl) ht11) <| .p rfl (op_load tok47 (.t 0 rfl)) <| .p rfl (op_field fld79_3 (.t 7 rfl)) <| .p rfl (op_field fld44_1 (.t 0 rfl)) <| .p rfl (op_loadT (R := rS) (u := ((s_).f).Of) tok9 (.t 0 rfl) rfl) <| .p rfl (op_callF call20 (typing_Field_ok ht16) (.cons (.of (.t 3 rfl)) <| .cons (.of (.t 0 rfl)) <| .nil)) <| .p rfl (op_assign (.t 0 rfl)) <| .nil _ _) (by kernel_rfl) (fun n1 a w hst => ?_)
 replace hst : St M w0 48 [(3,ti t16),(1,tptr (rStyping_spot.cs s_))] [] a w := (hst.pick [11,12])
 refine hK2 _ _ ?_
 try clear hK2 K2
 refine wp_seq_k (fun K3 hK3 => ?_)
 obtain ⟨t23,ht23,h⟩ := bind_some h
 refine wp_reg mixed [v1 9 (fun v0 => box (rSapi_Field.cs (Sapi_Field.mk ([] : Str) ([] : Str) ([] : Str) (0:Int) (0:Int) (0:Int) ([] : (List Str)) ([] : (List Int)))) v0),v1 9 (fun v0 => box (rSapi_Field.cs t23.1) v0)] hst (fun _ => .p rfl (op_field fld79_0 (.t 1 rfl)) <| .p rfl (op_loadT (R := rSapi_Schema) (u := (s_).x) tok34 (.t 0 rfl) rfl) <| .p rfl (op_field fld79_1 (.t 3 rfl)) <| .p rfl (op_loadT (R := rI) (u := (s_).kind) tok3 (.t 0 rfl) rfl) <| .q 4 rfl <| .p rfl (op_callF call44 (typing_at_ok ht23) (.cons (.of (.t 3 rfl)) <| .cons (.of (.t 1 rfl)) <| .cons (.of (.t 0 rfl)) <| .nil)) <| .q 0 rfl <| .p rfl (op_extract (.t 0 rfl) rfl) <| .p rfl (op_extract (.t 1 rfl) rfl) <| .m [] [0] rfl rfl rfl (op_alloc (R := rSapi_Field) (a := (Sapi_Field.mk ([] : Str) ([] : Str) ([] : Str) (0:Int) (0:Int) (0:Int) ([] : (List Str)) ([] : (List Int)))) tok44 zok44) <| .e [] [0] [1] rfl rfl rfl rfl (op_storeB (R := rSapi_Field) (a := t23.1) tok44 (.t 0 rfl) (.t 2 rfl) (leb rfl)) <| .p rfl (op_assign (.t 1 rfl)) <| .nil _ _) (by kernel_rfl) (fun n2 a w hst => ?_)
 replace hst : St M w0 48 [(4,tptr (rSapi_Field.cs t23.1)),(3,ti t16),(1,tptr (rStyping_spot.cs s_))] [] a w := ((((hst.pick [9,11,12]).shareB 0 rfl).add 0 rfl (fun _ _ _ h => h.2)).pick [0,3,4])
 refine hK3 _ _ ?_
 try clear hK3 K3
 refine wp_seq_k (fun K5 hK5 => ?_)
 obtain ⟨t47,ht47,h⟩ := bind_some h
 refine wp_reg mixed [] hst (fun _ => .p rfl (op_field fld79_3 (.t 2 rfl)) <| .p rfl (op_field fld44_1 (.t 0 rfl)) <| .p rfl (op_loadT (R := rS) (u := ((s_).f).Of) tok9 (.t 0 rfl) rfl) <| .p rfl (op_neqS (.t 0 rfl) .k) <| .q 0 rfl <| .g rfl rfl (.b 0 rfl) (fun _ => op_move (.t 6 rfl)) <| .g rfl rfl (.b 1 rfl) (fun hc => op_lss (.cond (.t 0 rfl) hc) .k) <| .g rfl rfl (.b 2 rfl) (fun hc => op_move (.cond (.t 0 rfl) hc)) <| .g rfl rfl (.c 0 rfl) (fun _ => op_move (.t 9 rfl)) <| .g rfl rfl (.c 1 rfl) (fun _ => op_field fld79_2 (.t 11 rfl)) <| .g rfl rfl (.c 2 rfl) (fun hc => op_loadT (R := rI) (u := (s_).field) tok3 (.cond (.t 0 rfl) hc) rfl) <| .g rfl rfl (.c 3 rfl) (fun hc => op_geq (.cond (.t 2 rfl) hc) (.cond (.t 0 rfl) hc)) <| .g rfl rfl (.b 7 rfl) (fun hc => op_or (.cond (.t 4 rfl) hc) (fun hp => (.cond (.t 0 rfl) (band_mk hc (beqF hp))))) <| .g rfl rfl (.b 8 rfl) (fun hc => op_move (.cond (.t 0 rfl) hc)) <| .g rfl rfl (.c 0 rfl) (fun _ => op_field fld44_3 (.t 14 rfl)) <| .g rfl rfl (.c 1 rfl) (fun hc => op_loadT (R := rI) (u := (t23.1).Kind) tok3 (.cond (.t 0 rfl) hc) rfl) <| .g rfl rfl (.c 2 rfl) (fun hc => op_neq (.cond (.t 0 rfl) hc) .k) <| .g rfl rfl (.b 12 rfl) (fun hc => op_or (.cond (.t 3 rfl) hc) (fun hp => (.cond (.t 0 rfl) (band_mk hc (beqF hp))))) <| .p rfl (op_and (.t 13 rfl) (fun hp => (.cond (.t 0 rfl) (beqT hp)))) <| .p (T := rStyping_fault.ty (Styping_fault.mk ((((s_).f).Of != ([] : Str)) && (((decide (t16 < (0:Int))) || (decide (t16 ≥ (s_).field))) || ((t23.1).Kind != (4:Int)))) (12:Int))) rfl (op_build Tryz.underlying72 pl72 zv72 zc72 (.cons (R := rBool) (u := ((((s_).f).Of != ([] : Str)) && (((decide (t16 < (0:Int))) || (decide (t16 ≥ (s_).field))) || ((t23.1).Kind != (4:Int))))) rfl (.t 0 rfl) (leb rfl) <| .cons (R := rI) (u := (12:Int)) rfl .k (leb rfl) <| .nil _)) <| .p rfl (op_buildSl (R := rStyping_fault) (us := [(Styping_fault.mk ((((s_).f).Of != ([] : Str)) && (((decide (t16 < (0:Int))) || (decide (t16 ≥ (s_).field))) || ((t23.1).Kind != (4:Int)))) (12:Int))]) Tryz.underlying135 tok72 (.cons (.t 0 rfl) <| .nil _) rfl (leb rfl)) <| .p rfl (op_callF call35 (typing_first_ok ht47) (.cons (.of (.t 0 rfl)) <| .nil)) <| .p rfl (op_assign (.t 0 rfl)) <| .nil _ _) (by kernel_rfl) (fun n3 a w hst => ?_)
 replace hst : St M w0 48 [(2,ti t47)] [] a w := (hst.pick [22])
 refine hK5 _ _ ?_
 try clear hK5 K5
 refine wp_ret ?_
 obtain rfl := sj h
 exact ret_st undef [] hpl hst rfl (.tmp (.t 0 rfl) .nil) rfl rfl rfl

/- diorama/typing.checks$4$1 -/
noncomputable def ftyping_checksq4q1 (l_ : Sapi_Life) (c0_ : Styping_spot) : Option (Bool) := (some ((l_).Name == ((c0_).f).Of))
set_option maxRecDepth 100000 in
set_option maxHeartbeats 4000000 in
theorem typing_checksq4q1_ok {l_ : Sapi_Life} {c0_ : Styping_spot} {r : Bool} (h : ftyping_checksq4q1 l_ c0_ = some r) : FnOk Tryz.prog 200 [rSapi_Life.ty l_,tptr (rStyping_spot.cs c0_)] [] (fun _ => []) (fun _ => tb r) := by
 unfold ftyping_checksq4q1 at h
 refine FnOk.enter Tryz.func200 rfl Tryz.ntmps200 (leb rfl) (fun M0 M w0 a hpl hst => ?_)
 replace hst : St M w0 10 [(0,rSapi_Life.ty l_),(1,tptr (rStyping_spot.cs c0_))] [] a w0 := hst
 refine wp_seq_k (fun K1 hK1 => ?_)
 refine wp_reg mixed [] hst (fun _ => .p rfl (op_boxR (R := rSapi_Life) (u := l_) (.t 0 rfl)) <| .p rfl (op_assign .k) <| .nil _ _) (by kernel_rfl) (fun n0 a w hst => ?_)
 replace hst : St M w0 10 [(2,tptr (rSapi_Life.cs l_)),(1,tptr (rStyping_spot.cs c0_))] [] a w := (hst.pick [0,3])
 refine hK1 _ _ ?_
 try clear hK1 K1
 refine wp_seq_k (fun K2 hK2 => ?_)
 refine wp_reg mixed [] hst (fun _ => .p rfl (op_field fld67_0 (.t 0 rfl)) <| .p rfl (op_loadT (R := rS) (u := (l_).Name) tok9 (.t 0 rfl) rfl) <| .p rfl (op_field fld79_3 (.t 3 rfl)) <| .p rfl (op_field fld44_1 (.t 0 rfl)) <| .p rfl (op_loadT (R := rS) (u := ((c0_).f).Of) tok9 (.t 0 rfl) rfl) <| .p rfl (op_eqlS (.t 3 rfl) (.t 0 rfl)) <| .p rfl (op_assign (.t 0 rfl)) <| .nil _ _) (by kernel_rfl) (fun n1 a w hst => ?_)
 replace hst : St M w0 10 [(3,tb ((l_).Name == ((c0_).f).Of))] [] a w := (hst.pick [6])
 refine hK2 _ _ ?_
 try clear hK2 K2
 refine wp_ret ?_
 obtain rfl := sj h
 exact ret_st undef [] hpl hst rfl (.tmp (.t 0 rfl) .nil) rfl rfl rfl

/- diorama/typing.checks$4 -/
noncomputable def ftyping_checksq4 (s_ : Styping_spot) : Option (Int) := (fslices_ContainsFunc_Life ((s_).x).Lives (fun x0 => ftyping_checksq4q1 x0 s_)).bind fun t8 => (ftyping_first [(Styping_fault.mk (!t8) (12:Int))]).bind fun t13 => (some t13)
set_option maxRecDepth 100000 in
set_option maxHeartbeats 4000000 in
theorem typing_checksq4_ok {s_ : Styping_spot} {r : Int} (h : ftyping_checksq4 s_ = some r) : FnOk Tryz.prog 199 [rStyping_spot.ty s_] [] (fun _ => []) (fun _ => ti r) := by
 unfold ftyping_checksq4 at h
 refine FnOk.enter Tryz.func199 rfl Tryz.ntmps199 (leb rfl) (fun M0 M w0 a hpl hst => ?_)
 replace hst : St M w0 14 [(0,rStyping_spot.ty s_)] [] a w0 := hst
 refine wp_seq_k (fun K1 hK1 => ?_)
 refine wp_reg mixed [] hst (fun _ => .p rfl (op_boxR (R := rStyping_spot) (u := s_) (.t 0 rfl)) <| .p rfl (op_assign .k) <| .nil _ _) (by kernel_rfl) (fun n0 a w hst => ?_)
 replace hst : St M w0 14 [(1,tptr (rStyping_spot.cs s_))] [] a w := (hst.pick [0])
 refine hK1 _ _ ?_
 try clear hK1 K1
 refine wp_seq_k (fun K2 hK2 => ?_)
 obtain ⟨t8,ht8,h⟩ := bind_some h
 refine wp_reg mixed [] hst (fun _ => .p rfl (op_field fld79_0 (.t 0 rfl)) <| .p rfl (op_field fld34_2 (.t 0 rfl)) <| .p rfl (op_loadT (R := (rSl rSapi_Life)) (u := ((s_).x).Lives) tok31 (.t 0 rfl) rfl) <| .p rfl (op_clo (.cons (.t 3 rfl) <| .nil)) <| .p rfl (op_callF call33 (slices_ContainsFunc_Life_ok ht8) (.cons (.of (.t 1 rfl)) <| .cons (.of (Fct.weak (.t 0 rfl) (tfn_of call200 (fun _ _ hq => typing_checksq4q1_ok hq)))) <| .nil)) <| .p rfl (op_assign (.t 0 rfl)) <| .nil _ _) (by kernel_rfl) (fun n1 a w hst => ?_)
 replace hst : St M w0 14 [(3,tb t8)] [] a w := (hst.pick [5])
 refine hK2 _ _ ?_
 try clear hK2 K2
 refine wp_seq_k (fun K3 hK3 => ?_)
 obtain ⟨t13,ht13,h⟩ := bind_some h
 refine wp_reg mixed [] hst (fun _ => .q 0 rfl <| .p rfl (op_not (.t 0 rfl)) <| .p (T := rStyping_fault.ty (Styping_fault.mk (!t8) (12:Int))) rfl (op_build Tryz.underlying72 pl72 zv72 zc72 (.cons (R := rBool) (u := (!t8)) rfl (.t 0 rfl) (leb rfl) <| .cons (R := rI) (u := (12:Int)) rfl .k (leb rfl) <| .nil _)) <| .p rfl (op_buildSl (R := rStyping_fault) (us := [(Styping_fault.mk (!t8) (12:Int))]) Tryz.underlying135 tok72 (.cons (.t 0 rfl) <| .nil _) rfl (leb rfl)) <| .p rfl (op_callF call35 (typing_first_ok ht13) (.cons (.of (.t 0 rfl)) <| .nil)) <| .p rfl (op_assign (.t 0 rfl)) <| .nil _ _) (by kernel_rfl) (fun n2 a w hst => ?_)
 replace hst : St M w0 14 [(2,ti t13)] [] a w := (hst.pick [5])
 refine hK3 _ _ ?_
 try clear hK3 K3
 refine wp_ret ?_
 obtain rfl := sj h
 exact ret_st undef [] hpl hst rfl (.tmp (.t 0 rfl) .nil) rfl rfl rfl

/- diorama/typing.checks$5 -/
noncomputable def ftyping_checksq5 (s_ : Styping_spot) : Option (Int) := (ftyping_shares (s_).x (s_).kind (s_).f).bind fun t12 => (ftyping_first [(Styping_fault.mk (decide (t12.1 < (0:Int))) (12:Int)),(Styping_fault.mk ((t12.2.length : Int) != (1:Int)) (11:Int))]).bind fun t23 => (some t23)
set_option maxRecDepth 100000 in
set_option maxHeartbeats 4000000 in
theorem typing_checksq5_ok {s_ : Styping_spot} {r : Int} (h : ftyping_checksq5 s_ = some r) : FnOk Tryz.prog 201 [rStyping_spot.ty s_] [] (fun _ => []) (fun _ => ti r) := by
 unfold ftyping_checksq5 at h
 refine FnOk.enter Tryz.func201 rfl Tryz.ntmps201 (leb rfl) (fun M0 M w0 a hpl hst => ?_)
 replace hst : St M w0 24 [(0,rStyping_spot.ty s_)] [] a w0 := hst
 refine wp_seq_k (fun K1 hK1 => ?_)
 refine wp_reg mixed [] hst (fun _ => .p rfl (op_boxR (R := rStyping_spot) (u := s_) (.t 0 rfl)) <| .p rfl (op_assign .k) <| .nil _ _) (by kernel_rfl) (fun n0 a w hst => ?_)
 replace hst : St M w0 24 [(1,tptr (rStyping_spot.cs s_))] [] a w := (hst.pick [0])
 refine hK1 _ _ ?_
 try clear hK1 K1
 refine wp_seq_k (fun K2 hK2 => ?_)
 obtain ⟨t12,ht12,h⟩ := bind_some h
 refine wp_reg mixed [] hst (fun _ => .p rfl (op_field fld79_0 (.t 0 rfl)) <| .p rfl (op_loadT (R := rSapi_Schema) (u := (s_).x) tok34 (.t 0 rfl) rfl) <| .p rfl (op_field fld79_1 (.t 2 rfl)) <| .p rfl (op_loadT (R := rI) (u := (s_).kind) tok3 (.t 0 rfl) rfl) <| .p rfl (op_field fld79_3 (.t 4 rfl)) <| .p rfl (op_loadT (R := rSapi_Field) (u := (s_).f) tok44 (.t 0 rfl) rfl) <| .p rfl (op_callF call45 (typing_shares_ok ht12) (.cons (.of (.t 4 rfl)) <| .cons (.of (.t 2 rfl)) <| .cons (.of (.t 0 rfl)) <| .nil)) <| .q 0 rfl <| .p rfl (op_extract (.t 0 rfl) rfl) <| .p rfl (op_extract (.t 1 rfl) rfl) <| .p rfl (op_assign (.t 1 rfl)) <| .p rfl (op_assign (.t 1 rfl)) <| .nil _ _) (by kernel_rfl) (fun n1 a w hst => ?_)
 replace hst : St M w0 24 [(3,ti t12.1),(4,tsl rI t12.2)] [] a w := (hst.pick [10,11])
 refine hK2 _ _ ?_
 try clear hK2 K2
 refine wp_seq_k (fun K3 hK3 => ?_)
 obtain ⟨t23,ht23,h⟩ := bind_some h
 refine wp_reg mixed [] hst (fun _ => .q 0 rfl <| .p rfl (op_lss (.t 0 rfl) .k) <| .p (T := rStyping_fault.ty (Styping_fault.mk (decide (t12.1 < (0:Int))) (12:Int))) rfl (op_build Tryz.underlying72 pl72 zv72 zc72 (.cons (R := rBool) (u := (decide (t12.1 < (0:Int)))) rfl (.t 0 rfl) (leb rfl) <| .cons (R := rI) (u := (12:Int)) rfl .k (leb rfl) <| .nil _)) <| .q 4 rfl <| .p rfl (op_len Tryz.underlying22 (.t 0 rfl)) <| .p rfl (op_neq (.t 0 rfl) .k) <| .p (T := rStyping_fault.ty (Styping_fault.mk ((t12.2.length : Int) != (1:Int)) (11:Int))) rfl (op_build Tryz.underlying72 pl72 zv72 zc72 (.cons (R := rBool) (u := ((t12.2.length : Int) != (1:Int))) rfl (.t 0 rfl) (leb rfl) <| .cons (R := rI) (u := (11:Int)) rfl .k (leb rfl) <| .nil _)) <| .p rfl (op_buildSl (R := rStyping_fault) (us := [(Styping_fault.mk (decide (t12.1 < (0:Int))) (12:Int)),(Styping_fault.mk ((t12.2.length : Int) != (1:Int)) (11:Int))]) Tryz.underlying135 tok72 (.cons (.t 4 rfl) <| .cons (.t 0 rfl) <| .nil _) rfl (leb rfl)) <| .p rfl (op_callF call35 (typing_first_ok ht23) (.cons (.of (.t 0 rfl)) <| .nil)) <| .p rfl (op_assign (.t 0 rfl)) <| .nil _ _) (by kernel_rfl) (fun n2 a w hst => ?_)
 replace hst : St M w0 24 [(2,ti t23)] [] a w := (hst.pick [9])
 refine hK3 _ _ ?_
 try clear hK3 K3
 refine wp_ret ?_
 obtain rfl := sj h
 exact ret_st undef [] hpl hst rfl (.tmp (.t 0 rfl) .nil) rfl rfl rfl

/- (diorama/typing.spot).top -/
noncomputable def ftyping_spot_top (s_ : Styping_spot) : Option (Sapi_Field × Bool) := (ftyping_Up (s_).x (s_).kind (s_).field).bind fun t11 => (if (decide (t11 < (0:Int))) = true then (some ((Sapi_Field.mk ([] : Str) ([] : Str) ([] : Str) (0:Int) (0:Int) (0:Int) ([] : (List Str)) ([] : (List Int))),false)) else (idx ((s_).x).Kinds t11).bind fun t22 => (ftyping_Field t22 ((s_).f).Of).bind fun t27 => (ftyping_at (s_).x t11 t27).bind fun t28 => (some (t28.1,t28.2)))
set_option maxRecDepth 100000 in
set_option maxHeartbeats 4000000 in
theorem typing_spot_top_ok {s_ : Styping_spot} {r : Sapi_Field × Bool} (h : ftyping_spot_top s_ = some r) : FnOk Tryz.prog 203 [rStyping_spot.ty s_] [] (fun _ => []) (fun _ => ttup [rSapi_Field.ty r.1,tb r.2]) := by
 unfold ftyping_spot_top at h
 refine FnOk.enter Tryz.func203 rfl Tryz.ntmps203 (leb rfl) (fun M0 M w0 a hpl hst => ?_)
 replace hst : St M w0 31 [(0,rStyping_spot.ty s_)] [] a w0 := hst
 refine wp_seq_k (fun K1 hK1 => ?_)
 refine wp_reg mixed [v1 1 (fun v0 => box (rSapi_Field.cs (Sapi_Field.mk ([] : Str) ([] : Str) ([] : Str) (0:Int) (0:Int) (0:Int) ([] : (List Str)) ([] : (List Int)))) v0)] hst (fun _ => .p rfl (op_boxR (R := rStyping_spot) (u := s_) (.t 0 rfl)) <| .m [] [0] rfl rfl rfl (op_alloc (R := rSapi_Field) (a := (Sapi_Field.mk ([] : Str) ([] : Str) ([] : Str) (0:Int) (0:Int) (0:Int) ([] : (List Str)) ([] : (List Int)))) tok44 zok44) <| .p rfl (op_assign .k) <| .nil _ _) (by kernel_rfl) (fun n0 a w hst => ?_)
 replace hst : St M w0 31 [(1,tptr (rStyping_spot.cs s_)),(2,tv (n0 1))] [box (rSapi_Field.cs (Sapi_Field.mk ([] : Str) ([] : Str) ([] : Str) (0:Int) (0:Int) (0:Int) ([] : (List Str)) ([] : (List Int)))) (n0 1)] a w := (hst.pick [0,1])
 refine hK1 _ _ ?_
 try clear hK1 K1
 refine wp_seq_k (fun K3 hK3 => ?_)
 obtain ⟨t11,ht11,h⟩ := bind_some h
 refine wp_reg mixed [] hst (fun _ => .p rfl (op_field fld79_0 (.t 0 rfl)) <| .p rfl (op_loadT (R := rSapi_Schema) (u := (s_).x) tok34 (.t 0 rfl) rfl) <| .p rfl (op_field fld79_1 (.t 2 rfl)) <| .p rfl (op_loadT (R := rI) (u := (s_).kind) tok3 (.t 0 rfl) rfl) <| .p rfl (op_field fld79_2 (.t 4 rfl)) <| .p rfl (op_loadT (R := rI) (u := (s_).field) tok3 (.t 0 rfl) rfl) <| .p rfl (op_callF call15 (typing_Up_ok ht11) (.cons (.of (.t 4 rfl)) <| .cons (.of (.t 2 rfl)) <| .cons (.of (.t 0 rfl)) <| .nil)) <| .p rfl (op_assign (.t 0 rfl)) <| .nil _ _) (by kernel_rfl) (fun n1 a w hst => ?_)
 replace hst : St M w0 31 [(4,ti t11),(1,tptr (rStyping_spot.cs s_)),(2,tv (n0 1))] [box (rSapi_Field.cs (Sapi_Field.mk ([] : Str) ([] : Str) ([] : Str) (0:Int) (0:Int) (0:Int) ([] : (List Str)) ([] : (List Int)))) (n0 1)] a w := (hst.pick [7,8,9])
 refine hK3 _ _ ?_
 try clear hK3 K3
 refine wp_seq_k (fun K4 hK4 => ?_)
 refine wp_seq_k (fun K5 hK5 => ?_)
 refine wp_reg mixed [] hst (fun _ => .q 0 rfl <| .p rfl (op_lss (.t 0 rfl) .k) <| .nil _ _) (by kernel_rfl) (fun n2 a w hst => ?_)
 replace hst : St M w0 31 [(13,tb (decide (t11 < (0:Int)))),(4,ti t11),(1,tptr (rStyping_spot.cs s_)),(2,tv (n0 1))] [box (rSapi_Field.cs (Sapi_Field.mk ([] : Str) ([] : Str) ([] : Str) (0:Int) (0:Int) (0:Int) ([] : (List Str)) ([] : (List Int)))) (n0 1)] a w := (hst.pick [1,2,3,4])
 refine hK5 _ _ ?_
 try clear hK5 K5
 refine wp_test 0 hst rfl (fun b8 => ?_) (fun b8 => ?_)
 ·replace h := ite_t b8 h
  refine wp_seq_k (fun K6 hK6 => ?_)
  refine wp_reg mixed [v0 (box (rSapi_Field.cs (Sapi_Field.mk ([] : Str) ([] : Str) ([] : Str) (0:Int) (0:Int) (0:Int) ([] : (List Str)) ([] : (List Int)))) (n0 1))] hst (fun _ => .p (T := rSapi_Field.ty (Sapi_Field.mk ([] : Str) ([] : Str) ([] : Str) (0:Int) (0:Int) (0:Int) ([] : (List Str)) ([] : (List Int)))) rfl (op_build Tryz.underlying44 pl44 zv44 zc44 (.nil _)) <| .e [] [0] [1] rfl rfl rfl rfl (op_storeB (R := rSapi_Field) (a := (Sapi_Field.mk ([] : Str) ([] : Str) ([] : Str) (0:Int) (0:Int) (0:Int) ([] : (List Str)) ([] : (List Int)))) tok44 (.t 4 rfl) (.t 0 rfl) (leb rfl)) <| .p rfl (op_assign .k) <| .nil _ _) (by kernel_rfl) (fun n3 a w hst => ?_)
  replace hst : St M w0 31 [(3,tb false),(2,tv (n0 1))] [box (rSapi_Field.cs (Sapi_Field.mk ([] : Str) ([] : Str) ([] : Str) (0:Int) (0:Int) (0:Int) ([] : (List Str)) ([] : (List Int)))) (n0 1)] a w := (hst.pick [1,5])
  refine hK6 _ _ ?_
  try clear hK6 K6
  refine wp_ret ?_
  obtain rfl := sj h
  exact ret_st undef [] hpl hst rfl (.cell (R := rSapi_Field) (u := (Sapi_Field.mk ([] : Str) ([] : Str) ([] : Str) (0:Int) (0:Int) (0:Int) ([] : (List Str)) ([] : (List Int)))) tok44 (.t 1 rfl) 0 rfl rfl (.tmp (.t 0 rfl) .nil)) rfl rfl rfl
 ·replace h := ite_f b8 h
  refine wp_skip ?_
  refine hK4 _ _ ?_
  try clear hK4 K4
  refine wp_seq_k (fun K7 hK7 => ?_)
  obtain ⟨t22,ht22,h⟩ := bind_some h
  obtain ⟨t27,ht27,h⟩ := bind_some h
  obtain ⟨t28,ht28,h⟩ := bind_some h
  refine wp_reg mixed [v0 (box (rSapi_Field.cs t28.1) (n0 1))] hst (fun _ => .p rfl (op_field fld79_0 (.t 2 rfl)) <| .p rfl (op_loadT (R := rSapi_Schema) (u := (s_).x) tok34 (.t 0 rfl) rfl) <| .q 3 rfl <| .p rfl (op_field fld79_0 (.t 5 rfl)) <| .p rfl (op_field fld34_1 (.t 0 rfl)) <| .p rfl (op_loadT (R := (rSl rSapi_Kind)) (u := ((s_).x).Kinds) tok30 (.t 0 rfl) rfl) <| .q 7 rfl <| .p rfl (op_index Tryz.underlying30 tok47 (.t 1 rfl) (.t 0 rfl) ht22) <| .p rfl (op_load tok47 (.t 0 rfl)) <| .p rfl (op_field fld79_3 (.t 11 rfl)) <| .p rfl (op_field fld44_1 (.t 0 rfl)) <| .p rfl (op_loadT (R := rS) (u := ((s_).f).Of) tok9 (.t 0 rfl) rfl) <| .p rfl (op_callF call20 (typing_Field_ok ht27) (.cons (.of (.t 3 rfl)) <| .cons (.of (.t 0 rfl)) <| .nil)) <| .p rfl (op_callF call44 (typing_at_ok ht28) (.cons (.of (.t 11 rfl)) <| .cons (.of (.t 10 rfl)) <| .cons (.of (.t 0 rfl)) <| .nil)) <| .p rfl (op_extract (.t 0 rfl) rfl) <| .p rfl (op_extract (.t 1 rfl) rfl) <| .e [] [0] [1] rfl rfl rfl rfl (op_storeB (R := rSapi_Field) (a := t28.1) tok44 (.t 19 rfl) (.t 1 rfl) (leb rfl)) <| .p rfl (op_assign (.t 0 rfl)) <| .nil _ _) (by kernel_rfl) (fun n4 a w hst => ?_)
  replace hst : St M w0 31 [(3,tb t28.2),(2,tv (n0 1))] [box (rSapi_Field.cs t28.1) (n0 1)] a w := (hst.pick [16,20])
  refine hK7 _ _ ?_
  try clear hK7 K7
  refine wp_ret ?_
  obtain rfl := sj h
  exact ret_st undef [] hpl hst rfl (.cell (R := rSapi_Field) (u := t28.1) tok44 (.t 1 rfl) 0 rfl rfl (.tmp (.t 0 rfl) .nil)) rfl rfl rfl

/- diorama/typing.checks$6 -/
noncomputable def ftyping_checksq6 (s_ : Styping_spot) : Option (Int) := (ftyping_spot_top s_).bind fun t7 => (ftyping_spot_lost s_).bind fun t11 => (opt (((!t7.2) || ((t7.1).Kind != (6:Int))) == false) (ftyping_Kind (s_).x (t7.1).Of) default).bind fun t25 => (ftyping_first [(Styping_fault.mk t11 (12:Int)),(Styping_fault.mk (((!t7.2) || ((t7.1).Kind != (6:Int))) || (t25 != (s_).kind)) (13:Int))]).bind fun t32 => (some t32)
set_option maxRecDepth 100000 in
set_option maxHeartbeats 4000000 in
theorem typing_checksq6_ok {s_ : Styping_spot} {r : Int} (h : ftyping_checksq6 s_ = some r) : FnOk Tryz.prog 202 [rStyping_spot.ty s_] [] (fun _ => []) (fun _ => ti r) := by
 unfold ftyping_checksq6 at h
 refine FnOk.enter Tryz.func202 rfl Tryz.ntmps202 (leb rfl) (fun M0 M w0 a hpl hst => ?_)
 replace hst : St M w0 33 [(0,rStyping_spot.ty s_)] [] a w0 := hst
 refine wp_seq_k (fun K1 hK1 => ?_)
 refine wp_reg mixed [] hst (fun _ => .p rfl (op_boxR (R := rStyping_spot) (u := s_) (.t 0 rfl)) <| .p rfl (op_assign .k) <| .nil _ _) (by kernel_rfl) (fun n0 a w hst => ?_)
 replace hst : St M w0 33 [(1,tptr (rStyping_spot.cs s_))] [] a w := (hst.pick [0])
 refine hK1 _ _ ?_
 try clear hK1 K1
 refine wp_seq_k (fun K2 hK2 => ?_)
 obtain ⟨t7,ht7,h⟩ := bind_some h
 refine wp_reg mixed [v1 5 (fun v0 => box (rSapi_Field.cs (Sapi_Field.mk ([] : Str) ([] : Str) ([] : Str) (0:Int) (0:Int) (0:Int) ([] : (List Str)) ([] : (List Int)))) v0),v1 5 (fun v0 => box (rSapi_Field.cs t7.1) v0)] hst (fun _ => .p rfl (op_load tok79 (.t 0 rfl)) <| .p rfl (op_callF call203 (typing_spot_top_ok ht7) (.cons (.of (.t 0 rfl)) <| .nil)) <| .q 0 rfl <| .p rfl (op_extract (.t 0 rfl) rfl) <| .p rfl (op_extract (.t 1 rfl) rfl) <| .m [] [0] rfl rfl rfl (op_alloc (R := rSapi_Field) (a := (Sapi_Field.mk ([] : Str) ([] : Str) ([] : Str) (0:Int) (0:Int) (0:Int) ([] : (List Str)) ([] : (List Int)))) tok44 zok44) <| .e [] [0] [1] rfl rfl rfl rfl (op_storeB (R := rSapi_Field) (a := t7.1) tok44 (.t 0 rfl) (.t 2 rfl) (leb rfl)) <| .p rfl (op_assign (.t 1 rfl)) <| .nil _ _) (by kernel_rfl) (fun n1 a w hst => ?_)
 replace hst : St M w0 33 [(3,tptr (rSapi_Field.cs t7.1)),(4,tb t7.2),(1,tptr (rStyping_spot.cs s_))] [] a w := ((((hst.pick [5,6,7]).shareB 0 rfl).add 0 rfl (fun _ _ _ h => h.2)).pick [0,3,4])
 refine hK2 _ _ ?_
 try clear hK2 K2
 refine wp_seq_k (fun K4 hK4 => ?_)
 obtain ⟨t11,ht11,h⟩ := bind_some h
 obtain ⟨t25,ht25,h⟩ := bind_some h
 obtain ⟨t32,ht32,h⟩ := bind_some h
 refine wp_reg mixed [] hst (fun _ => .p rfl (op_load tok79 (.t 2 rfl)) <| .p rfl (op_callF call193 (typing_spot_lost_ok ht11) (.cons (.of (.t 0 rfl)) <| .nil)) <| .p (T := rStyping_fault.ty (Styping_fault.mk t11 (12:Int))) rfl (op_build Tryz.underlying72 pl72 zv72 zc72 (.cons (R := rBool) (u := t11) rfl (.t 0 rfl) (leb rfl) <| .cons (R := rI) (u := (12:Int)) rfl .k (leb rfl) <| .nil _)) <| .q 4 rfl <| .p rfl (op_not (.t 0 rfl)) <| .q 0 rfl <| .g rfl rfl (.b 0 rfl) (fun _ => op_field fld44_3 (.t 6 rfl)) <| .g rfl rfl (.b 1 rfl) (fun hc => op_loadT (R := rI) (u := (t7.1).Kind) tok3 (.cond (.t 0 rfl) hc) rfl) <| .g rfl rfl (.b 2 rfl) (fun hc => op_neq (.cond (.t 0 rfl) hc) .k) <| .p rfl (op_or (.t 3 rfl) (fun hp => (.cond (.t 0 rfl) (beqF hp)))) <| .q 0 rfl <| .g rfl rfl (.b 0 rfl) (fun _ => op_field fld79_0 (.t 13 rfl)) <| .g rfl rfl (.b 1 rfl) (fun hc => op_loadT (R := rSapi_Schema) (u := (s_).x) tok34 (.cond (.t 0 rfl) hc) rfl) <| .g rfl rfl (.b 2 rfl) (fun _ => op_field fld44_1 (.t 13 rfl)) <| .g rfl rfl (.b 3 rfl) (fun hc => op_loadT (R := rS) (u := (t7.1).Of) tok9 (.cond (.t 0 rfl) hc) rfl) <| .g rfl rfl (.b 4 rfl) (fun hc => op_callF call18 (typing_Kind_ok (opt_t ht25 hc)) (.cons (.of (.cond (.t 2 rfl) hc)) <| .cons (.of (.cond (.t 0 rfl) hc)) <| .nil)) <| .g rfl rfl (.b 5 rfl) (fun _ => op_field fld79_1 (.t 18 rfl)) <| .g rfl rfl (.b 6 rfl) (fun hc => op_loadT (R := rI) (u := (s_).kind) tok3 (.cond (.t 0 rfl) hc) rfl) <| .g rfl rfl (.b 7 rfl) (fun hc => op_neq (.cond (.t 2 rfl) hc) (.cond (.t 0 rfl) hc)) <| .p rfl (op_or (.t 8 rfl) (fun hp => (.cond (.t 0 rfl) (beqF hp)))) <| .p (T := rStyping_fault.ty (Styping_fault.mk (((!t7.2) || ((t7.1).Kind != (6:Int))) || (t25 != (s_).kind)) (13:Int))) rfl (op_build Tryz.underlying72 pl72 zv72 zc72 (.cons (R := rBool) (u := (((!t7.2) || ((t7.1).Kind != (6:Int))) || (t25 != (s_).kind))) rfl (.t 0 rfl) (leb rfl) <| .cons (R := rI) (u := (13:Int)) rfl .k (leb rfl) <| .nil _)) <| .p rfl (op_buildSl (R := rStyping_fault) (us := [(Styping_fault.mk t11 (12:Int)),(Styping_fault.mk (((!t7.2) || ((t7.1).Kind != (6:Int))) || (t25 != (s_).kind)) (13:Int))]) Tryz.underlying135 tok72 (.cons (.t 18 rfl) <| .cons (.t 0 rfl) <| .nil _) rfl (leb rfl)) <| .p rfl (op_callF call35 (typing_first_ok ht32) (.cons (.of (.t 0 rfl)) <| .nil)) <| .p rfl (op_assign (.t 0 rfl)) <| .nil _ _) (by kernel_rfl) (fun n2 a w hst => ?_)
 replace hst : St M w0 33 [(2,ti t32)] [] a w := (hst.pick [23])
 refine hK4 _ _ ?_
 try clear hK4 K4
 refine wp_ret ?_
 obtain rfl := sj h
 exact ret_st undef [] hpl hst rfl (.tmp (.t 0 rfl) .nil) rfl rfl rfl

/- diorama/typing.checks$7 -/
noncomputable def ftyping_checksq7 (s_ : Styping_spot) : Option (Int) := (ftyping_spot_top s_).bind fun t8 => (ftyping_spot_lost s_).bind fun t35 => (ftyping_first [(Styping_fault.mk t35 (12:Int)),(Styping_fault.mk ((!t8.2) || (!((((((t8.1).Kind == (2:Int)) || ((t8.1).Kind == (3:Int))) || ((t8.1).Kind == (4:Int))) || ((t8.1).Kind == (5:Int))) || ((t8.1).Kind == (8:Int))))) (13:Int))]).bind fun t45 => (some t45)
set_option maxRecDepth 100000 in
set_option maxHeartbeats 4000000 in
theorem typing_checksq7_ok {s_ : Styping_spot} {r : Int} (h : ftyping_checksq7 s_ = some r) : FnOk Tryz.prog 204 [rStyping_spot.ty s_] [] (fun _ => []) (fun _ => ti r) := by
 unfold ftyping_checksq7 at h
 refine FnOk.enter Tryz.func204 rfl Tryz.ntmps204 (leb rfl) (fun M0 M w0 a hpl hst => ?_)
 replace hst : St M w0 46 [(0,rStyping_spot.ty s_)] [] a w0 := hst
 refine wp_seq_k (fun K1 hK1 => ?_)
 refine wp_reg mixed [] hst (fun _ => .p rfl (op_boxR (R := rStyping_spot) (u := s_) (.t 0 rfl)) <| .p rfl (op_assign .k) <| .nil _ _) (by kernel_rfl) (fun n0 a w hst => ?_)
 replace hst : St M w0 46 [(1,tptr (rStyping_spot.cs s_))] [] a w := (hst.pick [0])
 refine hK1 _ _ ?_
 try clear hK1 K1
 refine wp_seq_k (fun K2 hK2 => ?_)
 obtain ⟨t8,ht8,h⟩ := bind_some h
 refine wp_reg mixed [v1 5 (fun v0 => box (rSapi_Field.cs (Sapi_Field.mk ([] : Str) ([] : Str) ([] : Str) (0:Int) (0:Int) (0:Int) ([] : (List Str)) ([] : (List Int)))) v0),v1 5 (fun v0 => box (rSapi_Field.cs t8.1) v0)] hst (fun _ => .p rfl (op_load tok79 (.t 0 rfl)) <| .p rfl (op_callF call203 (typing_spot_top_ok ht8) (.cons (.of (.t 0 rfl)) <| .nil)) <| .q 0 rfl <| .p rfl (op_extract (.t 0 rfl) rfl) <| .p rfl (op_extract (.t 1 rfl) rfl) <| .m [] [0] rfl rfl rfl (op_alloc (R := rSapi_Field) (a := (Sapi_Field.mk ([] : Str) ([] : Str) ([] : Str) (0:Int) (0:Int) (0:Int) ([] : (List Str)) ([] : (List Int)))) tok44 zok44) <| .e [] [0] [1] rfl rfl rfl rfl (op_storeB (R := rSapi_Field) (a := t8.1) tok44 (.t 0 rfl) (.t 2 rfl) (leb rfl)) <| .p rfl (op_assign (.t 1 rfl)) <| .nil _ _) (by kernel_rfl) (fun n1 a w hst => ?_)
 replace hst : St M w0 46 [(3,tptr (rSapi_Field.cs t8.1)),(4,tb t8.2),(1,tptr (rStyping_spot.cs s_))] [] a w := ((((hst.pick [5,6,7]).shareB 0 rfl).add 0 rfl (fun _ _ _ h => h.2)).pick [0,3,4])
 refine hK2 _ _ ?_
 try clear hK2 K2
 refine wp_seq_k (fun K4 hK4 => ?_)
 refine wp_reg mixed [] hst (fun _ => .p rfl (op_field fld44_3 (.t 0 rfl)) <| .p rfl (op_loadT (R := rI) (u := (t8.1).Kind) tok3 (.t 0 rfl) rfl) <| .p rfl (op_eql (.t 0 rfl) .k) <| .q 0 rfl <| .g rfl rfl (.b 0 rfl) (fun _ => op_field fld44_3 (.t 4 rfl)) <| .g rfl rfl (.b 1 rfl) (fun hc => op_loadT (R := rI) (u := (t8.1).Kind) tok3 (.cond (.t 0 rfl) hc) rfl) <| .g rfl rfl (.b 2 rfl) (fun hc => op_eql (.cond (.t 0 rfl) hc) .k) <| .p rfl (op_or (.t 3 rfl) (fun hp => (.cond (.t 0 rfl) (beqF hp)))) <| .q 0 rfl <| .g rfl rfl (.b 0 rfl) (fun _ => op_field fld44_3 (.t 9 rfl)) <| .g rfl rfl (.b 1 rfl) (fun hc => op_loadT (R := rI) (u := (t8.1).Kind) tok3 (.cond (.t 0 rfl) hc) rfl) <| .g rfl rfl (.b 2 rfl) (fun hc => op_eql (.cond (.t 0 rfl) hc) .k) <| .p rfl (op_or (.t 3 rfl) (fun hp => (.cond (.t 0 rfl) (beqF hp)))) <| .q 0 rfl <| .g rfl rfl (.b 0 rfl) (fun _ => op_field fld44_3 (.t 14 rfl)) <| .g rfl rfl (.b 1 rfl) (fun hc => op_loadT (R := rI) (u := (t8.1).Kind) tok3 (.cond (.t 0 rfl) hc) rfl) <| .g rfl rfl (.b 2 rfl) (fun hc => op_eql (.cond (.t 0 rfl) hc) .k) <| .p rfl (op_or (.t 3 rfl) (fun hp => (.cond (.t 0 rfl) (beqF hp)))) <| .q 0 rfl <| .g rfl rfl (.b 0 rfl) (fun _ => op_field fld44_3 (.t 19 rfl)) <| .g rfl rfl (.b 1 rfl) (fun hc => op_loadT (R := rI) (u := (t8.1).Kind) tok3 (.cond (.t 0 rfl) hc) rfl) <| .g rfl rfl (.b 2 rfl) (fun hc => op_eql (.cond (.t 0 rfl) hc) .k) <| .p rfl (op_or (.t 3 rfl) (fun hp => (.cond (.t 0 rfl) (beqF hp)))) <| .p rfl (op_assign (.t 0 rfl)) <| .nil _ _) (by kernel_rfl) (fun n2 a w hst => ?_)
 replace hst : St M w0 46 [(5,tb ((((((t8.1).Kind == (2:Int)) || ((t8.1).Kind == (3:Int))) || ((t8.1).Kind == (4:Int))) || ((t8.1).Kind == (5:Int))) || ((t8.1).Kind == (8:Int)))),(4,tb t8.2),(1,tptr (rStyping_spot.cs s_))] [] a w := (hst.pick [23,25,26])
 refine hK4 _ _ ?_
 try clear hK4 K4
 refine wp_seq_k (fun K5 hK5 => ?_)
 obtain ⟨t35,ht35,h⟩ := bind_some h
 obtain ⟨t45,ht45,h⟩ := bind_some h
 refine wp_reg mixed [] hst (fun _ => .p rfl (op_load tok79 (.t 2 rfl)) <| .p rfl (op_callF call193 (typing_spot_lost_ok ht35) (.cons (.of (.t 0 rfl)) <| .nil)) <| .p (T := rStyping_fault.ty (Styping_fault.mk t35 (12:Int))) rfl (op_build Tryz.underlying72 pl72 zv72 zc72 (.cons (R := rBool) (u := t35) rfl (.t 0 rfl) (leb rfl) <| .cons (R := rI) (u := (12:Int)) rfl .k (leb rfl) <| .nil _)) <| .q 4 rfl <| .p rfl (op_not (.t 0 rfl)) <| .q 0 rfl <| .g rfl rfl (.b 0 rfl) (fun _ => op_move (.t 6 rfl)) <| .g rfl rfl (.b 1 rfl) (fun hc => op_not (.cond (.t 0 rfl) hc)) <| .p rfl (op_or (.t 2 rfl) (fun hp => (.cond (.t 0 rfl) (beqF hp)))) <| .p (T := rStyping_fault.ty (Styping_fault.mk ((!t8.2) || (!((((((t8.1).Kind == (2:Int)) || ((t8.1).Kind == (3:Int))) || ((t8.1).Kind == (4:Int))) || ((t8.1).Kind == (5:Int))) || ((t8.1).Kind == (8:Int))))) (13:Int))) rfl (op_build Tryz.underlying72 pl72 zv72 zc72 (.cons (R := rBool) (u := ((!t8.2) || (!((((((t8.1).Kind == (2:Int)) || ((t8.1).Kind == (3:Int))) || ((t8.1).Kind == (4:Int))) || ((t8.1).Kind == (5:Int))) || ((t8.1).Kind == (8:Int)))))) rfl (.t 0 rfl) (leb rfl) <| .cons (R := rI) (u := (13:Int)) rfl .k (leb rfl) <| .nil _)) <| .p rfl (op_buildSl (R := rStyping_fault) (us := [(Styping_fault.mk t35 (12:Int)),(Styping_fault.mk ((!t8.2) || (!((((((t8.1).Kind == (2:Int)) || ((t8.1).Kind == (3:Int))) || ((t8.1).Kind == (4:Int))) || ((t8.1).Kind == (5:Int))) || ((t8.1).Kind == (8:Int))))) (13:Int))]) Tryz.underlying135 tok72 (.cons (.t 7 rfl) <| .cons (.t 0 rfl) <| .nil _) rfl (leb rfl)) <| .p rfl (op_callF call35 (typing_first_ok ht45) (.cons (.of (.t 0 rfl)) <| .nil)) <| .p rfl (op_assign (.t 0 rfl)) <| .nil _ _) (by kernel_rfl) (fun n3 a w hst => ?_)
 replace hst : St M w0 46 [(2,ti t45)] [] a w := (hst.pick [12])
 refine hK5 _ _ ?_
 try clear hK5 K5
 refine wp_ret ?_
 obtain rfl := sj h
 exact ret_st undef [] hpl hst rfl (.tmp (.t 0 rfl) .nil) rfl rfl rfl

noncomputable def fChecks (i : Int) : Option (Styping_spot → Option Int) := if i = 0 then some ftyping_checksq1 else if i = 1 then some ftyping_checksq2 else if i = 4 then some ftyping_checksq3 else if i = 5 then some ftyping_checksq4 else if i = 6 then some ftyping_checksq5 else if i = 7 then some ftyping_checksq6 else if i = 8 then some ftyping_checksq7 else none
set_option maxRecDepth 100000 in
theorem op_lookG0 {Γ : List (Nat × Ty)} {d : Option Tmp} {ty : TypeId} {pos : String} {af : Array Edge} {g : Option (Nat × Bool)} {x y : Operand} {i : Int} (hx : Fct Γ x tgloM0) (hi : Fct Γ y (tv (.int .i64 i))) :
  OpJ Tryz.prog ⟨d,.lookup 77 x y true,ty,pos,af,g⟩ Γ [] [] (fun _ => []) (fun _ => ttup [rSX_check.ty (SX_check.mk (fChecks i)),tv (.bool (fChecks i).isSome)]) := by
 have key : (findE ents0 i).isSome = (fChecks i).isSome ∧ ∀ F w,(rSX_check.ty (SX_check.mk (fChecks i))).ok F w ((findE ents0 i).getD (.agg #[.nilFunc])) := by
  unfold fChecks
  by_cases h0 : i = 0
  ·subst h0; exact ⟨rfl,fun F w => ⟨_,rfl,.cons ⟨196,[],⟨[],rfl,.nil⟩,call196,fun _ _ hq => typing_checksq1_ok hq⟩ .nil⟩⟩
  by_cases h1 : i = 1
  ·subst h1; exact ⟨rfl,fun F w => ⟨_,rfl,.cons ⟨197,[],⟨[],rfl,.nil⟩,call197,fun _ _ hq => typing_checksq2_ok hq⟩ .nil⟩⟩
  by_cases h4 : i = 4
  ·subst h4; exact ⟨rfl,fun F w => ⟨_,rfl,.cons ⟨198,[],⟨[],rfl,.nil⟩,call198,fun _ _ hq => typing_checksq3_ok hq⟩ .nil⟩⟩
  by_cases h5 : i = 5
  ·subst h5; exact ⟨rfl,fun F w => ⟨_,rfl,.cons ⟨199,[],⟨[],rfl,.nil⟩,call199,fun _ _ hq => typing_checksq4_ok hq⟩ .nil⟩⟩
  by_cases h6 : i = 6
  ·subst h6; exact ⟨rfl,fun F w => ⟨_,rfl,.cons ⟨201,[],⟨[],rfl,.nil⟩,call201,fun _ _ hq => typing_checksq5_ok hq⟩ .nil⟩⟩
  by_cases h7 : i = 7
  ·subst h7; exact ⟨rfl,fun F w => ⟨_,rfl,.cons ⟨202,[],⟨[],rfl,.nil⟩,call202,fun _ _ hq => typing_checksq6_ok hq⟩ .nil⟩⟩
  by_cases h8 : i = 8
  ·subst h8; exact ⟨rfl,fun F w => ⟨_,rfl,.cons ⟨204,[],⟨[],rfl,.nil⟩,call204,fun _ _ hq => typing_checksq7_ok hq⟩ .nil⟩⟩
  simp only [findE,ents0,if_neg h0,if_neg h1,if_neg h4,if_neg h5,if_neg h6,if_neg h7,if_neg h8]
  exact ⟨rfl,fun F w => ⟨_,rfl,.cons rfl .nil⟩⟩
 have h := op_lookC (P := Tryz.prog) (Γ := Γ) (d := d) (ty := ty) (pos := pos) (af := af) (g := g) (V := fun _ => rSX_check.ty (SX_check.mk (fChecks i))) Tryz.underlying77 Tryz.underlying3 zv75 hx hi key.2
 rw [key.1] at h
 exact h

end Go.Proofs.YthdfmpocknmleaaGreatDoor
