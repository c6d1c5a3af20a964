/- Go functions as Lean functions, and the proofs that they compute them, written by a program. No condition. -/
import Derived.Test.YthdfmpocknmleaaGreatDoorGenG
namespace Go.Proofs.YthdfmpocknmleaaGreatDoor
open Go.Sim

/- diorama/dioramaref09.Source -/
noncomputable def fref09_Source (x_ : Sapi_Schema) : Option (Str) := (fref09_and ([115,99,104,101,109,97] : Str) (x_).Version).bind fun t15 => (tailrec (fun (s5 : Int × Str) => ((if (decide (s5.1 < ((x_).Kinds.length : Int))) = true then (idx (x_).Kinds s5.1).bind fun t26 => (cat (s5.2.length + ([10,107,105,110,100,32] : Str).length)).bind fun _ => (cat ((s5.2 ++ ([10,107,105,110,100,32] : Str)).length + (t26).Name.length)).bind fun _ => (fref09_and ((s5.2 ++ ([10,107,105,110,100,32] : Str)) ++ (t26).Name) (t26).Lo).bind fun t35 => (fref09_and t35 (t26).Hi).bind fun t38 => (tailrec (fun (s201 : Int × Str) => ((if (decide (s201.1 < ((t26).Fields.length : Int))) = true then (idx (t26).Fields s201.1).bind fun t50 => (fref09_line t50).bind fun t52 => (cat (s201.2.length + t52.length)).bind fun _ => (some (.inl ((IntKind.i64.wrap (s201.1 + (1:Int))),(s201.2 ++ t52)))) else (some (.inr s201.2))) : Option ((Int × Str) ⊕ ((Str))))) ((0:Int),t38)).bind fun (p207 : (Str)) => (some (.inl ((IntKind.i64.wrap (s5.1 + (1:Int))),p207))) else (some (.inr s5.2))) : Option ((Int × Str) ⊕ ((Str))))) ((0:Int),t15)).bind fun (p51 : (Str)) => (tailrec (fun (s54 : Int × Str) => ((if (decide (s54.1 < ((x_).Lives.length : Int))) = true then (idx (x_).Lives s54.1).bind fun t64 => (cat (s54.2.length + ([10,108,105,102,101,32] : Str).length)).bind fun _ => (cat ((s54.2 ++ ([10,108,105,102,101,32] : Str)).length + (t64).Name.length)).bind fun _ => (fref09_and ((s54.2 ++ ([10,108,105,102,101,32] : Str)) ++ (t64).Name) ((t64).States.length : Int)).bind fun t74 => (tailrec (fun (s167 : Int × Str) => ((if (decide (s167.1 < ((t64).States.length : Int))) = true then (cat (s167.2.length + ([32] : Str).length)).bind fun _ => (idx (t64).States s167.1).bind fun t87 => (cat ((s167.2 ++ ([32] : Str)).length + t87.length)).bind fun _ => (some (.inl ((IntKind.i64.wrap (s167.1 + (1:Int))),((s167.2 ++ ([32] : Str)) ++ t87)))) else (some (.inr s167.2))) : Option ((Int × Str) ⊕ ((Str))))) ((0:Int),t74)).bind fun (p173 : (Str)) => (tailrec (fun (s175 : Int × Str) => ((if (decide (s175.1 < ((t64).Moves.length : Int))) = true then (cat (s175.2.length + ([10,109,111,118,101] : Str).length)).bind fun _ => (idx (t64).Moves s175.1).bind fun t102 => (fref09_and (s175.2 ++ ([10,109,111,118,101] : Str)) (t102).a0).bind fun t105 => (idx (t64).Moves s175.1).bind fun t109 => (fref09_and t105 (t109).a1).bind fun t112 => (some (.inl ((IntKind.i64.wrap (s175.1 + (1:Int))),t112))) else (some (.inr s175.2))) : Option ((Int × Str) ⊕ ((Str))))) ((0:Int),p173)).bind fun (p181 : (Str)) => (some (.inl ((IntKind.i64.wrap (s54.1 + (1:Int))),p181))) else (some (.inr s54.2))) : Option ((Int × Str) ⊕ ((Str))))) ((0:Int),p51)).bind fun (p132 : (Str)) => (tailrec (fun (s135 : Int × Str) => ((if (decide (s135.1 < ((x_).Rules.length : Int))) = true then (idx (x_).Rules s135.1).bind fun t123 => (cat (s135.2.length + ([10,114,117,108,101,32] : Str).length)).bind fun _ => (cat ((s135.2 ++ ([10,114,117,108,101,32] : Str)).length + (t123).Name.length)).bind fun _ => (cat (((s135.2 ++ ([10,114,117,108,101,32] : Str)) ++ (t123).Name).length + ([32] : Str).length)).bind fun _ => (cat ((((s135.2 ++ ([10,114,117,108,101,32] : Str)) ++ (t123).Name) ++ ([32] : Str)).length + (t123).Kind.length)).bind fun _ => (cat (((((s135.2 ++ ([10,114,117,108,101,32] : Str)) ++ (t123).Name) ++ ([32] : Str)) ++ (t123).Kind).length + ([32] : Str).length)).bind fun _ => (fref09_named (t123).A).bind fun t137 => (cat ((((((s135.2 ++ ([10,114,117,108,101,32] : Str)) ++ (t123).Name) ++ ([32] : Str)) ++ (t123).Kind) ++ ([32] : Str)).length + t137.length)).bind fun _ => (cat (((((((s135.2 ++ ([10,114,117,108,101,32] : Str)) ++ (t123).Name) ++ ([32] : Str)) ++ (t123).Kind) ++ ([32] : Str)) ++ t137).length + ([32] : Str).length)).bind fun _ => (fref09_named (t123).B).bind fun t142 => (cat ((((((((s135.2 ++ ([10,114,117,108,101,32] : Str)) ++ (t123).Name) ++ ([32] : Str)) ++ (t123).Kind) ++ ([32] : Str)) ++ t137) ++ ([32] : Str)).length + t142.length)).bind fun _ => (fref09_and ((((((((s135.2 ++ ([10,114,117,108,101,32] : Str)) ++ (t123).Name) ++ ([32] : Str)) ++ (t123).Kind) ++ ([32] : Str)) ++ t137) ++ ([32] : Str)) ++ t142) (t123).N).bind fun t146 => (some (.inl ((IntKind.i64.wrap (s135.1 + (1:Int))),t146))) else (some (.inr s135.2))) : Option ((Int × Str) ⊕ ((Str))))) ((0:Int),p132)).bind fun (p149 : (Str)) => (cat (p149.length + ([10] : Str).length)).bind fun _ => (some (p149 ++ ([10] : Str)))
set_option maxRecDepth 100000 in
set_option maxHeartbeats 4000000 in
theorem ref09_Source_ok {x_ : Sapi_Schema} {r : Str} (h : fref09_Source x_ = some r) : FnOk Tryz.prog 93 [rSapi_Schema.ty x_] [] (fun _ => []) (fun _ => tv (.string (sB r))) := by
 unfold fref09_Source at h
 refine FnOk.enter Tryz.func93 rfl Tryz.ntmps93 (leb rfl) (fun M0 M w0 a hpl hst => ?_)
 replace hst : St M w0 149 [(0,rSapi_Schema.ty x_)] [] a w0 := hst
 refine sr mixed [] hst (fun _ => .o (op_boxR (R := rSapi_Schema) (u := x_) z0) <| .o (op_assign .k) <| .n) fun n0 a w hst => ?_
 replace hst := hst.to [0] [_] [] rfl rfl
 obtain ⟨t15,ht15,h⟩ := bind_some h
 refine sr mixed [] hst (fun _ => .o (op_field fld34_0 z0) <| .o (op_loadT (R := rI) (u := (x_).Version) tok3 z0 rfl) <| .o (op_callF call129 (ref09_and_ok ht15) (.cons (.of .k) <| .cons (.of z0) <| .nil)) <| .o (op_assign z0) <| .n) fun n1 a w hst => ?_
 replace hst := hst.to [3,4] [_,_] [] rfl rfl
 refine wp_seq_k (fun K3 hK3 => ?_)
 refine sr mixed [] hst (fun _ => .o (op_assign .k) <| .n) fun n2 a w hst => ?_
 replace hst := hst.to [0,1,2] [_,_,_] [] rfl rfl
 obtain ⟨e6,he6,h⟩ := bind_some h
 have hJp51 : ∀ (p51 : Str) a w,p51 = e6 → St M w0 149 [(3,tv (.string (sB p51))),(1,tptr (rSapi_Schema.cs x_))] [] a w → K3 a w := by
  intro p51 a w he hst
  subst he
  refine hK3 _ _ ?_
  try clear hK3 K3
  refine wp_seq_k (fun K52 hK52 => ?_)
  refine sr mixed [] hst (fun _ => .o (op_assign .k) <| .n) fun n11 a w hst => ?_
  replace hst := hst.to [0,1,2] [_,_,_] [] rfl rfl
  obtain ⟨e55,he55,h⟩ := bind_some h
  have hJp132 : ∀ (p132 : Str) a w,p132 = e55 → St M w0 149 [(3,tv (.string (sB p132))),(1,tptr (rSapi_Schema.cs x_))] [] a w → K52 a w := by
   intro p132 a w he hst
   subst he
   refine hK52 _ _ ?_
   try clear hK52 K52
   refine wp_seq_k (fun K133 hK133 => ?_)
   refine sr mixed [] hst (fun _ => .o (op_assign .k) <| .n) fun n24 a w hst => ?_
   replace hst := hst.to [0,1,2] [_,_,_] [] rfl rfl
   obtain ⟨e136,he136,h⟩ := bind_some h
   have hJp149 : ∀ (p149 : Str) a w,p149 = e136 → St M w0 149 [(3,tv (.string (sB p149)))] [] a w → K133 a w := by
    intro p149 a w he hst
    subst he
    refine hK133 _ _ ?_
    try clear hK133 K133
    refine wp_seq_k (fun K150 hK150 => ?_)
    obtain ⟨u148,hu148,h⟩ := bind_some h
    refine wr mixed [] hst (fun _ => .q 0 rfl <| .o (op_addS z0 .k hu148) <| .o (op_assign z0) <| .n) fun n29 a w hst => ?_
    replace hst := hst.to [2] [_] [] rfl rfl
    refine hK150 _ _ ?_
    try clear hK150 K150
    refine wp_ret ?_
    obtain rfl := sj h
    exact ret_st undef [] hpl hst rfl (.tmp z0 .nil) rfl rfl rfl
   refine wp_block ?_
   refine wp_loopK _ (fun (s135 : Int × Str) a w => St M w0 149 [(11,ti s135.1),(3,tv (.string (sB s135.2))),(1,tptr (rSapi_Schema.cs x_))] [] a w) _ _ he136 (hst.pick [0,1,2]) ?_
   clear h
   intro s135 o a w K151 hI h ho hK151
   have hst := hI
   clear hI
   refine wp_seq_k (fun K152 hK152 => ?_)
   refine sr mixed [] hst (fun _ => .q 0 rfl <| .o (op_field fld34_3 z3) <| .o (op_loadT (R := (rSl rSapi_Rule)) (u := (x_).Rules) tok32 z0 rfl) <| .o (op_len ud32 z0) <| .o (op_lss z3 z0) <| .n) fun n25 a w hst => ?_
   replace hst := hst.to [4,5,6,7] [_,_,_,_] [] rfl rfl
   refine wt hst (fun b157 => ?_) (fun b157 => ?_)
   ·replace h := ite_t b157 h
    refine wp_skip ?_
    refine hK152 _ _ ?_
    try clear hK152 K152
    refine wp_seq_k (fun K154 hK154 => ?_)
    refine wp_block ?_
    obtain ⟨t123,ht123,h⟩ := bind_some h
    refine sr mixed [v1 5 (fun v0 => box (rSapi_Rule.cs zz3) v0),v1 5 (fun v0 => box (rSapi_Rule.cs t123) v0)] hst (fun _ => .o (op_field fld34_3 z3) <| .o (op_loadT (R := (rSl rSapi_Rule)) (u := (x_).Rules) tok32 z0 rfl) <| .q 3 rfl <| .o (op_index ud32 tok100 z1 z0 ht123) <| .o (op_load tok100 z0) <| .m [] [0] rfl rfl rfl (op_alloc (R := rSapi_Rule) (a := zz3) tok100 zok100) <| .e [] [0] [1] rfl rfl rfl rfl (op_storeB (R := rSapi_Rule) (a := t123) tok100 z0 z1 (leb rfl)) <| .n) fun n27 a w hst => ?_
    replace hst : St _ _ _ [_,_,_,_] [] _ _ := (((hst.pick [5,7,8,9]).shareB 0 rfl).add 0 rfl (fun _ _ _ h => h.2)).pick [0,3,4,5]
    obtain ⟨u126,hu126,h⟩ := bind_some h
    obtain ⟨u129,hu129,h⟩ := bind_some h
    obtain ⟨u130,hu130,h⟩ := bind_some h
    obtain ⟨u133,hu133,h⟩ := bind_some h
    obtain ⟨u134,hu134,h⟩ := bind_some h
    obtain ⟨t137,ht137,h⟩ := bind_some h
    obtain ⟨u138,hu138,h⟩ := bind_some h
    obtain ⟨u139,hu139,h⟩ := bind_some h
    obtain ⟨t142,ht142,h⟩ := bind_some h
    obtain ⟨u143,hu143,h⟩ := bind_some h
    obtain ⟨t146,ht146,h⟩ := bind_some h
    refine wr mixed [] hst (fun _ => .q 2 rfl <| .o (op_addS z0 .k hu126) <| .o (op_field fld100_0 z2) <| .o (op_loadT (R := rS) (u := (t123).Name) tok9 z0 rfl) <| .o (op_addS z2 z0 hu129) <| .o (op_addS z0 .k hu130) <| .o (op_field fld100_1 z6) <| .o (op_loadT (R := rS) (u := (t123).Kind) tok9 z0 rfl) <| .o (op_addS z2 z0 hu133) <| .o (op_addS z0 .k hu134) <| .o (op_field fld100_2 z10) <| .o (op_loadT (R := rS) (u := (t123).A) tok9 z0 rfl) <| .o (op_callF call131 (ref09_named_ok ht137) (.cons (.of z0) <| .nil)) <| .o (op_addS z3 z0 hu138) <| .o (op_addS z0 .k hu139) <| .o (op_field fld100_3 z15) <| .o (op_loadT (R := rS) (u := (t123).B) tok9 z0 rfl) <| .o (op_callF call131 (ref09_named_ok ht142) (.cons (.of z0) <| .nil)) <| .o (op_addS z3 z0 hu143) <| .o (op_field fld100_4 z19) <| .o (op_loadT (R := rI) (u := (t123).N) tok3 z0 rfl) <| .o (op_callF call129 (ref09_and_ok ht146) (.cons (.of z2) <| .cons (.of z0) <| .nil)) <| .o (op_assign z0) <| .n) fun n28 a w hst => ?_
    replace hst := hst.to [22,24,25] [_,_,_] [] rfl rfl
    refine hK154 _ _ ?_
    try clear hK154 K154
    refine wr mixed [] hst (fun _ => .q 1 rfl <| .o (op_add z0 .k) <| .o (op_assign z0) <| .n) fun n26 a w hst => ?_
    replace hst := hst.to [2,3,4] [_,_,_] [] rfl rfl
    exact hK151 _ _ _ (sj h).symm (hst.pick [0,1,2])
   ·replace h := ite_f b157 h
    refine wp_exit ?_
    exact hJp149 _ _ _ (ho _ (sj h).symm) (hst.pick [2])
  refine wp_block ?_
  refine wp_loopK _ (fun (s54 : Int × Str) a w => St M w0 149 [(7,ti s54.1),(3,tv (.string (sB s54.2))),(1,tptr (rSapi_Schema.cs x_))] [] a w) _ _ he55 (hst.pick [0,1,2]) ?_
  clear h
  intro s54 o a w K158 hI h ho hK158
  have hst := hI
  clear hI
  refine wp_seq_k (fun K159 hK159 => ?_)
  refine sr mixed [] hst (fun _ => .q 0 rfl <| .o (op_field fld34_2 z3) <| .o (op_loadT (R := (rSl rSapi_Life)) (u := (x_).Lives) tok31 z0 rfl) <| .o (op_len ud31 z0) <| .o (op_lss z3 z0) <| .n) fun n12 a w hst => ?_
  replace hst := hst.to [4,5,6,7] [_,_,_,_] [] rfl rfl
  refine wt hst (fun b192 => ?_) (fun b192 => ?_)
  ·replace h := ite_t b192 h
   refine wp_skip ?_
   refine hK159 _ _ ?_
   try clear hK159 K159
   refine wp_seq_k (fun K161 hK161 => ?_)
   refine wp_block ?_
   obtain ⟨t64,ht64,h⟩ := bind_some h
   refine sr mixed [v1 5 (fun v0 => box (rSapi_Life.cs zz2) v0),v1 5 (fun v0 => box (rSapi_Life.cs t64) v0)] hst (fun _ => .o (op_field fld34_2 z3) <| .o (op_loadT (R := (rSl rSapi_Life)) (u := (x_).Lives) tok31 z0 rfl) <| .q 3 rfl <| .o (op_index ud31 tok67 z1 z0 ht64) <| .o (op_load tok67 z0) <| .m [] [0] rfl rfl rfl (op_alloc (R := rSapi_Life) (a := zz2) tok67 zok67) <| .e [] [0] [1] rfl rfl rfl rfl (op_storeB (R := rSapi_Life) (a := t64) tok67 z0 z1 (leb rfl)) <| .n) fun n14 a w hst => ?_
   replace hst : St _ _ _ [_,_,_,_] [] _ _ := (((hst.pick [5,7,8,9]).shareB 0 rfl).add 0 rfl (fun _ _ _ h => h.2)).pick [0,3,4,5]
   refine wp_seq_k (fun K164 hK164 => ?_)
   obtain ⟨u67,hu67,h⟩ := bind_some h
   obtain ⟨u70,hu70,h⟩ := bind_some h
   obtain ⟨t74,ht74,h⟩ := bind_some h
   refine wr mixed [] hst (fun _ => .q 2 rfl <| .o (op_addS z0 .k hu67) <| .o (op_field fld67_0 z2) <| .o (op_loadT (R := rS) (u := (t64).Name) tok9 z0 rfl) <| .o (op_addS z2 z0 hu70) <| .o (op_field fld67_1 z5) <| .o (op_loadT (R := (rSl rS)) (u := (t64).States) tok38 z0 rfl) <| .o (op_len ud38 z0) <| .o (op_callF call129 (ref09_and_ok ht74) (.cons (.of z3) <| .cons (.of z0) <| .nil)) <| .o (op_assign z0) <| .n) fun n15 a w hst => ?_
   replace hst := hst.to [9,10,11,12] [_,_,_,_] [] rfl rfl
   refine hK164 _ _ ?_
   try clear hK164 K164
   refine wp_seq_k (fun K165 hK165 => ?_)
   refine sr mixed [] hst (fun _ => .o (op_assign .k) <| .n) fun n16 a w hst => ?_
   replace hst := hst.to [0,1,2,3,4] [_,_,_,_,_] [] rfl rfl
   obtain ⟨e168,he168,h⟩ := bind_some h
   have hJp173 : ∀ (p173 : Str) a w,p173 = e168 → St M w0 149 [(3,tv (.string (sB p173))),(8,tptr (rSapi_Life.cs t64)),(7,ti s54.1),(1,tptr (rSapi_Schema.cs x_))] [] a w → K165 a w := by
    intro p173 a w he hst
    subst he
    refine hK165 _ _ ?_
    try clear hK165 K165
    refine sr mixed [] hst (fun _ => .o (op_assign .k) <| .n) fun n20 a w hst => ?_
    replace hst := hst.to [0,1,2,3,4] [_,_,_,_,_] [] rfl rfl
    obtain ⟨e176,he176,h⟩ := bind_some h
    have hJp181 : ∀ (p181 : Str) a w,p181 = e176 → St M w0 149 [(3,tv (.string (sB p181))),(7,ti s54.1),(1,tptr (rSapi_Schema.cs x_))] [] a w → K161 a w := by
     intro p181 a w he hst
     subst he
     refine hK161 _ _ ?_
     try clear hK161 K161
     refine wr mixed [] hst (fun _ => .q 1 rfl <| .o (op_add z0 .k) <| .o (op_assign z0) <| .n) fun n13 a w hst => ?_
     replace hst := hst.to [2,3,4] [_,_,_] [] rfl rfl
     exact hK158 _ _ _ (sj h).symm (hst.pick [0,1,2])
    refine wp_block ?_
    refine wp_loopK _ (fun (s175 : Int × Str) a w => St M w0 149 [(10,ti s175.1),(3,tv (.string (sB s175.2))),(8,tptr (rSapi_Life.cs t64)),(7,ti s54.1),(1,tptr (rSapi_Schema.cs x_))] [] a w) _ _ he176 (hst.pick [0,1,2,3,4]) ?_
    clear h
    intro s175 o a w K182 hI h ho hK182
    have hst := hI
    clear hI
    refine wp_seq_k (fun K183 hK183 => ?_)
    refine sr mixed [] hst (fun _ => .q 0 rfl <| .o (op_field fld67_2 z3) <| .o (op_loadT (R := (rSl rA2_Int)) (u := (t64).Moves) tok65 z0 rfl) <| .o (op_len ud65 z0) <| .o (op_lss z3 z0) <| .n) fun n21 a w hst => ?_
    replace hst := hst.to [4,5,6,7,8,9] [_,_,_,_,_,_] [] rfl rfl
    refine wt hst (fun b186 => ?_) (fun b186 => ?_)
    ·replace h := ite_t b186 h
     refine wp_skip ?_
     refine hK183 _ _ ?_
     try clear hK183 K183
     refine wp_seq_k (fun K185 hK185 => ?_)
     refine wp_block ?_
     obtain ⟨u98,hu98,h⟩ := bind_some h
     obtain ⟨t102,ht102,h⟩ := bind_some h
     obtain ⟨t105,ht105,h⟩ := bind_some h
     obtain ⟨t109,ht109,h⟩ := bind_some h
     obtain ⟨t112,ht112,h⟩ := bind_some h
     refine wr mixed [] hst (fun _ => .q 2 rfl <| .o (op_addS z0 .k hu98) <| .o (op_field fld67_2 z5) <| .o (op_loadT (R := (rSl rA2_Int)) (u := (t64).Moves) tok65 z0 rfl) <| .q 5 rfl <| .o (op_index ud65 tok98 z1 z0 ht102) <| .o (op_idxA 0 rfl ud98 tok3 z0 .k (by decide)) <| .o (op_loadT (R := rI) (u := (t102).a0) tok3 z0 rfl) <| .o (op_callF call129 (ref09_and_ok ht105) (.cons (.of z6) <| .cons (.of z0) <| .nil)) <| .o (op_field fld67_2 z12) <| .o (op_loadT (R := (rSl rA2_Int)) (u := (t64).Moves) tok65 z0 rfl) <| .q 12 rfl <| .o (op_index ud65 tok98 z1 z0 ht109) <| .o (op_idxA 1 rfl ud98 tok3 z0 .k (by decide)) <| .o (op_loadT (R := rI) (u := (t109).a1) tok3 z0 rfl) <| .o (op_callF call129 (ref09_and_ok ht112) (.cons (.of z6) <| .cons (.of z0) <| .nil)) <| .o (op_assign z0) <| .n) fun n23 a w hst => ?_
     replace hst := hst.to [16,18,19,20,21] [_,_,_,_,_] [] rfl rfl
     refine hK185 _ _ ?_
     try clear hK185 K185
     refine wr mixed [] hst (fun _ => .q 1 rfl <| .o (op_add z0 .k) <| .o (op_assign z0) <| .n) fun n22 a w hst => ?_
     replace hst := hst.to [2,3,4,5,6] [_,_,_,_,_] [] rfl rfl
     exact hK182 _ _ _ (sj h).symm (hst.pick [0,1,2,3,4])
    ·replace h := ite_f b186 h
     refine wp_exit ?_
     exact hJp181 _ _ _ (ho _ (sj h).symm) (hst.pick [2,4,5])
   refine wp_block ?_
   refine wp_loopK _ (fun (s167 : Int × Str) a w => St M w0 149 [(9,ti s167.1),(3,tv (.string (sB s167.2))),(8,tptr (rSapi_Life.cs t64)),(7,ti s54.1),(1,tptr (rSapi_Schema.cs x_))] [] a w) _ _ he168 (hst.pick [0,1,2,3,4]) ?_
   clear h
   intro s167 o a w K187 hI h ho hK187
   have hst := hI
   clear hI
   refine wp_seq_k (fun K188 hK188 => ?_)
   refine sr mixed [] hst (fun _ => .q 0 rfl <| .o (op_field fld67_1 z3) <| .o (op_loadT (R := (rSl rS)) (u := (t64).States) tok38 z0 rfl) <| .o (op_len ud38 z0) <| .o (op_lss z3 z0) <| .n) fun n17 a w hst => ?_
   replace hst := hst.to [4,5,6,7,8,9] [_,_,_,_,_,_] [] rfl rfl
   refine wt hst (fun b191 => ?_) (fun b191 => ?_)
   ·replace h := ite_t b191 h
    refine wp_skip ?_
    refine hK188 _ _ ?_
    try clear hK188 K188
    refine wp_seq_k (fun K190 hK190 => ?_)
    refine wp_block ?_
    obtain ⟨u83,hu83,h⟩ := bind_some h
    obtain ⟨t87,ht87,h⟩ := bind_some h
    obtain ⟨u89,hu89,h⟩ := bind_some h
    refine wr mixed [] hst (fun _ => .q 2 rfl <| .o (op_addS z0 .k hu83) <| .o (op_field fld67_1 z5) <| .o (op_loadT (R := (rSl rS)) (u := (t64).States) tok38 z0 rfl) <| .q 5 rfl <| .o (op_index ud38 tok9 z1 z0 ht87) <| .o (op_load tok9 z0) <| .o (op_addS z5 z0 hu89) <| .o (op_assign z0) <| .n) fun n19 a w hst => ?_
    replace hst := hst.to [8,10,11,12,13] [_,_,_,_,_] [] rfl rfl
    refine hK190 _ _ ?_
    try clear hK190 K190
    refine wr mixed [] hst (fun _ => .q 1 rfl <| .o (op_add z0 .k) <| .o (op_assign z0) <| .n) fun n18 a w hst => ?_
    replace hst := hst.to [2,3,4,5,6] [_,_,_,_,_] [] rfl rfl
    exact hK187 _ _ _ (sj h).symm (hst.pick [0,1,2,3,4])
   ·replace h := ite_f b191 h
    refine wp_exit ?_
    exact hJp173 _ _ _ (ho _ (sj h).symm) (hst.pick [2,3,4,5])
  ·replace h := ite_f b192 h
   refine wp_exit ?_
   exact hJp132 _ _ _ (ho _ (sj h).symm) (hst.pick [2,3])
 refine wp_block ?_
 refine wp_loopK _ (fun (s5 : Int × Str) a w => St M w0 149 [(4,ti s5.1),(3,tv (.string (sB s5.2))),(1,tptr (rSapi_Schema.cs x_))] [] a w) _ _ he6 (hst.pick [0,1,2]) ?_
 clear h
 intro s5 o a w K193 hI h ho hK193
 have hst := hI
 clear hI
 refine wp_seq_k (fun K194 hK194 => ?_)
 refine sr mixed [] hst (fun _ => .q 0 rfl <| .o (op_field fld34_1 z3) <| .o (op_loadT (R := (rSl rSapi_Kind)) (u := (x_).Kinds) tok30 z0 rfl) <| .o (op_len ud30 z0) <| .o (op_lss z3 z0) <| .n) fun n3 a w hst => ?_
 replace hst := hst.to [4,5,6,7] [_,_,_,_] [] rfl rfl
 refine wt hst (fun b213 => ?_) (fun b213 => ?_)
 ·replace h := ite_t b213 h
  refine wp_skip ?_
  refine hK194 _ _ ?_
  try clear hK194 K194
  refine wp_seq_k (fun K196 hK196 => ?_)
  refine wp_block ?_
  obtain ⟨t26,ht26,h⟩ := bind_some h
  refine sr mixed [v1 5 (fun v0 => box (rSapi_Kind.cs zz1) v0),v1 5 (fun v0 => box (rSapi_Kind.cs t26) v0)] hst (fun _ => .o (op_field fld34_1 z3) <| .o (op_loadT (R := (rSl rSapi_Kind)) (u := (x_).Kinds) tok30 z0 rfl) <| .q 3 rfl <| .o (op_index ud30 tok47 z1 z0 ht26) <| .o (op_load tok47 z0) <| .m [] [0] rfl rfl rfl (op_alloc (R := rSapi_Kind) (a := zz1) tok47 zok47) <| .e [] [0] [1] rfl rfl rfl rfl (op_storeB (R := rSapi_Kind) (a := t26) tok47 z0 z1 (leb rfl)) <| .n) fun n5 a w hst => ?_
  replace hst : St _ _ _ [_,_,_,_] [] _ _ := (((hst.pick [5,7,8,9]).shareB 0 rfl).add 0 rfl (fun _ _ _ h => h.2)).pick [0,3,4,5]
  refine wp_seq_k (fun K199 hK199 => ?_)
  obtain ⟨u29,hu29,h⟩ := bind_some h
  obtain ⟨u32,hu32,h⟩ := bind_some h
  obtain ⟨t35,ht35,h⟩ := bind_some h
  obtain ⟨t38,ht38,h⟩ := bind_some h
  refine wr mixed [] hst (fun _ => .q 2 rfl <| .o (op_addS z0 .k hu29) <| .o (op_field fld47_0 z2) <| .o (op_loadT (R := rS) (u := (t26).Name) tok9 z0 rfl) <| .o (op_addS z2 z0 hu32) <| .o (op_field fld47_1 z5) <| .o (op_loadT (R := rI) (u := (t26).Lo) tok3 z0 rfl) <| .o (op_callF call129 (ref09_and_ok ht35) (.cons (.of z2) <| .cons (.of z0) <| .nil)) <| .o (op_field fld47_2 z8) <| .o (op_loadT (R := rI) (u := (t26).Hi) tok3 z0 rfl) <| .o (op_callF call129 (ref09_and_ok ht38) (.cons (.of z2) <| .cons (.of z0) <| .nil)) <| .o (op_assign z0) <| .n) fun n6 a w hst => ?_
  replace hst := hst.to [11,12,13,14] [_,_,_,_] [] rfl rfl
  refine hK199 _ _ ?_
  try clear hK199 K199
  refine sr mixed [] hst (fun _ => .o (op_assign .k) <| .n) fun n7 a w hst => ?_
  replace hst := hst.to [0,1,2,3,4] [_,_,_,_,_] [] rfl rfl
  obtain ⟨e202,he202,h⟩ := bind_some h
  have hJp207 : ∀ (p207 : Str) a w,p207 = e202 → St M w0 149 [(3,tv (.string (sB p207))),(4,ti s5.1),(1,tptr (rSapi_Schema.cs x_))] [] a w → K196 a w := by
   intro p207 a w he hst
   subst he
   refine hK196 _ _ ?_
   try clear hK196 K196
   refine wr mixed [] hst (fun _ => .q 1 rfl <| .o (op_add z0 .k) <| .o (op_assign z0) <| .n) fun n4 a w hst => ?_
   replace hst := hst.to [2,3,4] [_,_,_] [] rfl rfl
   exact hK193 _ _ _ (sj h).symm (hst.pick [0,1,2])
  refine wp_block ?_
  refine wp_loopK _ (fun (s201 : Int × Str) a w => St M w0 149 [(6,ti s201.1),(3,tv (.string (sB s201.2))),(5,tptr (rSapi_Kind.cs t26)),(4,ti s5.1),(1,tptr (rSapi_Schema.cs x_))] [] a w) _ _ he202 (hst.pick [0,1,2,3,4]) ?_
  clear h
  intro s201 o a w K208 hI h ho hK208
  have hst := hI
  clear hI
  refine wp_seq_k (fun K209 hK209 => ?_)
  refine sr mixed [] hst (fun _ => .q 0 rfl <| .o (op_field fld47_3 z3) <| .o (op_loadT (R := (rSl rSapi_Field)) (u := (t26).Fields) tok45 z0 rfl) <| .o (op_len ud45 z0) <| .o (op_lss z3 z0) <| .n) fun n8 a w hst => ?_
  replace hst := hst.to [4,5,6,7,8,9] [_,_,_,_,_,_] [] rfl rfl
  refine wt hst (fun b212 => ?_) (fun b212 => ?_)
  ·replace h := ite_t b212 h
   refine wp_skip ?_
   refine hK209 _ _ ?_
   try clear hK209 K209
   refine wp_seq_k (fun K211 hK211 => ?_)
   refine wp_block ?_
   obtain ⟨t50,ht50,h⟩ := bind_some h
   obtain ⟨t52,ht52,h⟩ := bind_some h
   obtain ⟨u53,hu53,h⟩ := bind_some h
   refine wr mixed [] hst (fun _ => .q 2 rfl <| .o (op_field fld47_3 z4) <| .o (op_loadT (R := (rSl rSapi_Field)) (u := (t26).Fields) tok45 z0 rfl) <| .q 4 rfl <| .o (op_index ud45 tok44 z1 z0 ht50) <| .o (op_load tok44 z0) <| .o (op_callF call130 (ref09_line_ok ht52) (.cons (.of z0) <| .nil)) <| .o (op_addS z6 z0 hu53) <| .o (op_assign z0) <| .n) fun n10 a w hst => ?_
   replace hst := hst.to [8,10,11,12,13] [_,_,_,_,_] [] rfl rfl
   refine hK211 _ _ ?_
   try clear hK211 K211
   refine wr mixed [] hst (fun _ => .q 1 rfl <| .o (op_add z0 .k) <| .o (op_assign z0) <| .n) fun n9 a w hst => ?_
   replace hst := hst.to [2,3,4,5,6] [_,_,_,_,_] [] rfl rfl
   exact hK208 _ _ _ (sj h).symm (hst.pick [0,1,2,3,4])
  ·replace h := ite_f b212 h
   refine wp_exit ?_
   exact hJp207 _ _ _ (ho _ (sj h).symm) (hst.pick [2,4,5])
 ·replace h := ite_f b213 h
  refine wp_exit ?_
  exact hJp51 _ _ _ (ho _ (sj h).symm) (hst.pick [2,3])

/- diorama/dioramaref09.Valid -/
noncomputable def fref09_Valid (x_ : Sapi_Schema) : Option (Int) := (fref09_within (x_).Version (0:Int) (1048576:Int)).bind fun t8 => (if ((((!t8) || (decide (((x_).Kinds.length : Int) > (6:Int)))) || (decide (((x_).Lives.length : Int) > (6:Int)))) || (decide (((x_).Rules.length : Int) > (16:Int)))) = true then (some (1:Int)) else (tailrec (fun (s7 : Int) => ((if (decide (s7 < ((x_).Kinds.length : Int))) = true then (idx (x_).Kinds s7).bind fun t38 => (fref09_isKind t38).bind fun t40 => (if (!t40) = true then (some (.inr (.inr (1:Int)))) else (some (.inl (IntKind.i64.wrap (s7 + (1:Int)))))) else (some (.inr (.inl ())))) : Option ((Int) ⊕ ((Unit) ⊕ (Int))))) (0:Int)).bind fun (e8 : (Unit) ⊕ (Int)) => (match e8 with | .inl _ => (tailrec (fun (s27 : Int) => ((if (decide (s27 < ((x_).Lives.length : Int))) = true then (idx (x_).Lives s27).bind fun t52 => (fref09_isLife t52).bind fun t54 => (if (!t54) = true then (some (.inr (.inr (1:Int)))) else (some (.inl (IntKind.i64.wrap (s27 + (1:Int)))))) else (some (.inr (.inl ())))) : Option ((Int) ⊕ ((Unit) ⊕ (Int))))) (0:Int)).bind fun (e28 : (Unit) ⊕ (Int)) => (match e28 with | .inl _ => (tailrec (fun (s47 : Int) => ((if (decide (s47 < ((x_).Rules.length : Int))) = true then (idx (x_).Rules s47).bind fun t66 => (fref09_isRule t66).bind fun t68 => (if (!t68) = true then (some (.inr (.inr (1:Int)))) else (some (.inl (IntKind.i64.wrap (s47 + (1:Int)))))) else (some (.inr (.inl ())))) : Option ((Int) ⊕ ((Unit) ⊕ (Int))))) (0:Int)).bind fun (e48 : (Unit) ⊕ (Int)) => (match e48 with | .inl _ => (fref09_Source x_).bind fun t71 => (if (decide ((t71.length : Int) > (8192:Int))) = true then (some (4:Int)) else (some (0:Int))) | .inr p64 => (some p64)) | .inr p44 => (some p44)) | .inr p24 => (some p24)))
set_option maxRecDepth 100000 in
set_option maxHeartbeats 4000000 in
theorem ref09_Valid_ok {x_ : Sapi_Schema} {r : Int} (h : fref09_Valid x_ = some r) : FnOk Tryz.prog 38 [rSapi_Schema.ty x_] [] (fun _ => []) (fun _ => ti r) := by
 unfold fref09_Valid at h
 refine FnOk.enter Tryz.func38 rfl Tryz.ntmps38 (leb rfl) (fun M0 M w0 a hpl hst => ?_)
 replace hst : St M w0 74 [(0,rSapi_Schema.ty x_)] [] a w0 := hst
 refine sr mixed [] hst (fun _ => .o (op_boxR (R := rSapi_Schema) (u := x_) z0) <| .o (op_assign .k) <| .n) fun n0 a w hst => ?_
 replace hst := hst.to [0] [_] [] rfl rfl
 refine wp_seq_k (fun K2 hK2 => ?_)
 obtain ⟨t8,ht8,h⟩ := bind_some h
 refine sr mixed [] hst (fun _ => .o (op_field fld34_0 z0) <| .o (op_loadT (R := rI) (u := (x_).Version) tok3 z0 rfl) <| .o (op_callF call89 (ref09_within_ok ht8) (.cons (.of z0) <| .cons (.of .k) <| .cons (.of .k) <| .nil)) <| .o (op_not z0) <| .q 0 rfl <| .g rfl rfl (.b 0 rfl) (fun _ => op_field fld34_1 z5) <| .g rfl rfl (.b 1 rfl) (fun hc => op_loadT (R := (rSl rSapi_Kind)) (u := (x_).Kinds) tok30 (.cond z0 hc) rfl) <| .g rfl rfl (.b 2 rfl) (fun hc => op_len ud30 (.cond z0 hc)) <| .g rfl rfl (.b 3 rfl) (fun hc => op_gtr (.cond z0 hc) .k) <| .o (op_or z4 (fun hp => (.cond z0 (beqF hp)))) <| .q 0 rfl <| .g rfl rfl (.b 0 rfl) (fun _ => op_field fld34_2 z11) <| .g rfl rfl (.b 1 rfl) (fun hc => op_loadT (R := (rSl rSapi_Life)) (u := (x_).Lives) tok31 (.cond z0 hc) rfl) <| .g rfl rfl (.b 2 rfl) (fun hc => op_len ud31 (.cond z0 hc)) <| .g rfl rfl (.b 3 rfl) (fun hc => op_gtr (.cond z0 hc) .k) <| .o (op_or z4 (fun hp => (.cond z0 (beqF hp)))) <| .q 0 rfl <| .g rfl rfl (.b 0 rfl) (fun _ => op_field fld34_3 z17) <| .g rfl rfl (.b 1 rfl) (fun hc => op_loadT (R := (rSl rSapi_Rule)) (u := (x_).Rules) tok32 (.cond z0 hc) rfl) <| .g rfl rfl (.b 2 rfl) (fun hc => op_len ud32 (.cond z0 hc)) <| .g rfl rfl (.b 3 rfl) (fun hc => op_gtr (.cond z0 hc) .k) <| .o (op_or z4 (fun hp => (.cond z0 (beqF hp)))) <| .n) fun n1 a w hst => ?_
 replace hst := hst.to [21,22] [_,_] [] rfl rfl
 refine wt hst (fun b94 => ?_) (fun b94 => ?_)
 ·replace h := ite_t b94 h
  refine sr mixed [] hst (fun _ => .o (op_assign .k) <| .n) fun n2 a w hst => ?_
  replace hst := hst.to [0] [_] [] rfl rfl
  refine wp_ret ?_
  obtain rfl := sj h
  exact ret_st undef [] hpl hst rfl (.tmp z0 .nil) rfl rfl rfl
 ·replace h := ite_f b94 h
  refine wp_skip ?_
  refine hK2 _ _ ?_
  try clear hK2 K2
  refine wp_seq_k (fun K5 hK5 => ?_)
  refine sr mixed [] hst (fun _ => .o (op_assign .k) <| .n) fun n3 a w hst => ?_
  replace hst := hst.to [0,2] [_,_] [] rfl rfl
  obtain ⟨e8,he8,h⟩ := bind_some h
  have hJp23 : ∀ (p23 : Unit) a w,(.inl p23) = e8 → St M w0 74 [(1,tptr (rSapi_Schema.cs x_))] [] a w → K5 a w := by
   intro p23 a w he hst
   subst he
   simp only at h
   refine hK5 _ _ ?_
   try clear hK5 K5
   refine wp_seq_k (fun K25 hK25 => ?_)
   refine sr mixed [] hst (fun _ => .o (op_assign .k) <| .n) fun n8 a w hst => ?_
   replace hst := hst.to [0,1] [_,_] [] rfl rfl
   obtain ⟨e28,he28,h⟩ := bind_some h
   have hJp43 : ∀ (p43 : Unit) a w,(.inl p43) = e28 → St M w0 74 [(1,tptr (rSapi_Schema.cs x_))] [] a w → K25 a w := by
    intro p43 a w he hst
    subst he
    simp only at h
    refine hK25 _ _ ?_
    try clear hK25 K25
    refine wp_seq_k (fun K45 hK45 => ?_)
    refine sr mixed [] hst (fun _ => .o (op_assign .k) <| .n) fun n13 a w hst => ?_
    replace hst := hst.to [0,1] [_,_] [] rfl rfl
    obtain ⟨e48,he48,h⟩ := bind_some h
    have hJp63 : ∀ (p63 : Unit) a w,(.inl p63) = e48 → St M w0 74 [(1,tptr (rSapi_Schema.cs x_))] [] a w → K45 a w := by
     intro p63 a w he hst
     subst he
     simp only at h
     refine hK45 _ _ ?_
     try clear hK45 K45
     refine wp_seq_k (fun K65 hK65 => ?_)
     obtain ⟨t71,ht71,h⟩ := bind_some h
     refine sr mixed [] hst (fun _ => .o (op_load tok34 z0) <| .o (op_callF call93 (ref09_Source_ok ht71) (.cons (.of z0) <| .nil)) <| .o (op_lenS' ud9 z0) <| .o (op_gtr z0 .k) <| .n) fun n18 a w hst => ?_
     replace hst := hst.to [3] [_] [] rfl rfl
     refine wt hst (fun b69 => ?_) (fun b69 => ?_)
     ·replace h := ite_t b69 h
      refine sr mixed [] hst (fun _ => .o (op_assign .k) <| .n) fun n19 a w hst => ?_
      replace hst := hst.to [0] [_] [] rfl rfl
      refine wp_ret ?_
      obtain rfl := sj h
      exact ret_st undef [] hpl hst rfl (.tmp z0 .nil) rfl rfl rfl
     ·replace h := ite_f b69 h
      refine wp_skip ?_
      refine hK65 _ _ ?_
      try clear hK65 K65
      refine sr mixed [] hst (fun _ => .o (op_assign .k) <| .n) fun n20 a w hst => ?_
      replace hst := hst.to [0] [_] [] rfl rfl
      refine wp_ret ?_
      obtain rfl := sj h
      exact ret_st undef [] hpl hst rfl (.tmp z0 .nil) rfl rfl rfl
    have hJp64 : ∀ (p64 : Int) a w,(.inr p64) = e48 → St M w0 74 [(2,ti p64)] [] a w → Ret Tryz.prog Tryz.f38 M0 [] w0 (fun _ => []) (fun _ => ti r) .ret a w := by
     intro p64 a w he hst
     subst he
     simp only at h
     obtain rfl := sj h
     exact ret_st undef [] hpl hst rfl (.tmp z0 .nil) rfl rfl rfl
    refine wp_block ?_
    refine wp_loopK _ (fun (s47 : Int) a w => St M w0 74 [(5,ti s47),(1,tptr (rSapi_Schema.cs x_))] [] a w) _ _ he48 (hst.pick [0,1]) ?_
    clear h
    intro s47 o a w K70 hI h ho hK70
    have hst := hI
    clear hI
    refine wp_seq_k (fun K71 hK71 => ?_)
    refine sr mixed [] hst (fun _ => .q 0 rfl <| .o (op_field fld34_3 z2) <| .o (op_loadT (R := (rSl rSapi_Rule)) (u := (x_).Rules) tok32 z0 rfl) <| .o (op_len ud32 z0) <| .o (op_lss z3 z0) <| .n) fun n14 a w hst => ?_
    replace hst := hst.to [4,5,6] [_,_,_] [] rfl rfl
    refine wt hst (fun b77 => ?_) (fun b77 => ?_)
    ·replace h := ite_t b77 h
     refine wp_skip ?_
     refine hK71 _ _ ?_
     try clear hK71 K71
     refine wp_seq_k (fun K73 hK73 => ?_)
     refine wp_block ?_
     obtain ⟨t66,ht66,h⟩ := bind_some h
     obtain ⟨t68,ht68,h⟩ := bind_some h
     refine sr mixed [] hst (fun _ => .o (op_field fld34_3 z2) <| .o (op_loadT (R := (rSl rSapi_Rule)) (u := (x_).Rules) tok32 z0 rfl) <| .q 3 rfl <| .o (op_index ud32 tok100 z1 z0 ht66) <| .o (op_load tok100 z0) <| .o (op_callF call92 (ref09_isRule_ok ht68) (.cons (.of z0) <| .nil)) <| .o (op_not z0) <| .n) fun n16 a w hst => ?_
     replace hst := hst.to [6,8,9] [_,_,_] [] rfl rfl
     refine wt hst (fun b76 => ?_) (fun b76 => ?_)
     ·replace h := ite_t b76 h
      refine sr mixed [] hst (fun _ => .o (op_assign .k) <| .n) fun n17 a w hst => ?_
      replace hst := hst.to [0] [_] [] rfl rfl
      refine wp_ret ?_
      exact hJp64 _ _ _ (ho _ (sj h).symm) (hst.pick [0])
     ·replace h := ite_f b76 h
      refine wp_skip ?_
      refine hK73 _ _ ?_
      try clear hK73 K73
      refine wr mixed [] hst (fun _ => .q 1 rfl <| .o (op_add z0 .k) <| .o (op_assign z0) <| .n) fun n15 a w hst => ?_
      replace hst := hst.to [2,4] [_,_] [] rfl rfl
      exact hK70 _ _ _ (sj h).symm (hst.pick [0,1])
    ·replace h := ite_f b77 h
     refine wp_exit ?_
     exact hJp63 _ _ _ (ho _ (sj h).symm) (hst.pick [2])
   have hJp44 : ∀ (p44 : Int) a w,(.inr p44) = e28 → St M w0 74 [(2,ti p44)] [] a w → Ret Tryz.prog Tryz.f38 M0 [] w0 (fun _ => []) (fun _ => ti r) .ret a w := by
    intro p44 a w he hst
    subst he
    simp only at h
    obtain rfl := sj h
    exact ret_st undef [] hpl hst rfl (.tmp z0 .nil) rfl rfl rfl
   refine wp_block ?_
   refine wp_loopK _ (fun (s27 : Int) a w => St M w0 74 [(4,ti s27),(1,tptr (rSapi_Schema.cs x_))] [] a w) _ _ he28 (hst.pick [0,1]) ?_
   clear h
   intro s27 o a w K78 hI h ho hK78
   have hst := hI
   clear hI
   refine wp_seq_k (fun K79 hK79 => ?_)
   refine sr mixed [] hst (fun _ => .q 0 rfl <| .o (op_field fld34_2 z2) <| .o (op_loadT (R := (rSl rSapi_Life)) (u := (x_).Lives) tok31 z0 rfl) <| .o (op_len ud31 z0) <| .o (op_lss z3 z0) <| .n) fun n9 a w hst => ?_
   replace hst := hst.to [4,5,6] [_,_,_] [] rfl rfl
   refine wt hst (fun b85 => ?_) (fun b85 => ?_)
   ·replace h := ite_t b85 h
    refine wp_skip ?_
    refine hK79 _ _ ?_
    try clear hK79 K79
    refine wp_seq_k (fun K81 hK81 => ?_)
    refine wp_block ?_
    obtain ⟨t52,ht52,h⟩ := bind_some h
    obtain ⟨t54,ht54,h⟩ := bind_some h
    refine sr mixed [] hst (fun _ => .o (op_field fld34_2 z2) <| .o (op_loadT (R := (rSl rSapi_Life)) (u := (x_).Lives) tok31 z0 rfl) <| .q 3 rfl <| .o (op_index ud31 tok67 z1 z0 ht52) <| .o (op_load tok67 z0) <| .o (op_callF call91 (ref09_isLife_ok ht54) (.cons (.of z0) <| .nil)) <| .o (op_not z0) <| .n) fun n11 a w hst => ?_
    replace hst := hst.to [6,8,9] [_,_,_] [] rfl rfl
    refine wt hst (fun b84 => ?_) (fun b84 => ?_)
    ·replace h := ite_t b84 h
     refine sr mixed [] hst (fun _ => .o (op_assign .k) <| .n) fun n12 a w hst => ?_
     replace hst := hst.to [0] [_] [] rfl rfl
     refine wp_ret ?_
     exact hJp44 _ _ _ (ho _ (sj h).symm) (hst.pick [0])
    ·replace h := ite_f b84 h
     refine wp_skip ?_
     refine hK81 _ _ ?_
     try clear hK81 K81
     refine wr mixed [] hst (fun _ => .q 1 rfl <| .o (op_add z0 .k) <| .o (op_assign z0) <| .n) fun n10 a w hst => ?_
     replace hst := hst.to [2,4] [_,_] [] rfl rfl
     exact hK78 _ _ _ (sj h).symm (hst.pick [0,1])
   ·replace h := ite_f b85 h
    refine wp_exit ?_
    exact hJp43 _ _ _ (ho _ (sj h).symm) (hst.pick [2])
  have hJp24 : ∀ (p24 : Int) a w,(.inr p24) = e8 → St M w0 74 [(2,ti p24)] [] a w → Ret Tryz.prog Tryz.f38 M0 [] w0 (fun _ => []) (fun _ => ti r) .ret a w := by
   intro p24 a w he hst
   subst he
   simp only at h
   obtain rfl := sj h
   exact ret_st undef [] hpl hst rfl (.tmp z0 .nil) rfl rfl rfl
  refine wp_block ?_
  refine wp_loopK _ (fun (s7 : Int) a w => St M w0 74 [(3,ti s7),(1,tptr (rSapi_Schema.cs x_))] [] a w) _ _ he8 (hst.pick [0,1]) ?_
  clear h
  intro s7 o a w K86 hI h ho hK86
  have hst := hI
  clear hI
  refine wp_seq_k (fun K87 hK87 => ?_)
  refine sr mixed [] hst (fun _ => .q 0 rfl <| .o (op_field fld34_1 z2) <| .o (op_loadT (R := (rSl rSapi_Kind)) (u := (x_).Kinds) tok30 z0 rfl) <| .o (op_len ud30 z0) <| .o (op_lss z3 z0) <| .n) fun n4 a w hst => ?_
  replace hst := hst.to [4,5,6] [_,_,_] [] rfl rfl
  refine wt hst (fun b93 => ?_) (fun b93 => ?_)
  ·replace h := ite_t b93 h
   refine wp_skip ?_
   refine hK87 _ _ ?_
   try clear hK87 K87
   refine wp_seq_k (fun K89 hK89 => ?_)
   refine wp_block ?_
   obtain ⟨t38,ht38,h⟩ := bind_some h
   obtain ⟨t40,ht40,h⟩ := bind_some h
   refine sr mixed [] hst (fun _ => .o (op_field fld34_1 z2) <| .o (op_loadT (R := (rSl rSapi_Kind)) (u := (x_).Kinds) tok30 z0 rfl) <| .q 3 rfl <| .o (op_index ud30 tok47 z1 z0 ht38) <| .o (op_load tok47 z0) <| .o (op_callF call90 (ref09_isKind_ok ht40) (.cons (.of z0) <| .nil)) <| .o (op_not z0) <| .n) fun n6 a w hst => ?_
   replace hst := hst.to [6,8,9] [_,_,_] [] rfl rfl
   refine wt hst (fun b92 => ?_) (fun b92 => ?_)
   ·replace h := ite_t b92 h
    refine sr mixed [] hst (fun _ => .o (op_assign .k) <| .n) fun n7 a w hst => ?_
    replace hst := hst.to [0] [_] [] rfl rfl
    refine wp_ret ?_
    exact hJp24 _ _ _ (ho _ (sj h).symm) (hst.pick [0])
   ·replace h := ite_f b92 h
    refine wp_skip ?_
    refine hK89 _ _ ?_
    try clear hK89 K89
    refine wr mixed [] hst (fun _ => .q 1 rfl <| .o (op_add z0 .k) <| .o (op_assign z0) <| .n) fun n5 a w hst => ?_
    replace hst := hst.to [2,4] [_,_] [] rfl rfl
    exact hK86 _ _ _ (sj h).symm (hst.pick [0,1])
  ·replace h := ite_f b93 h
   refine wp_exit ?_
   exact hJp23 _ _ _ (ho _ (sj h).symm) (hst.pick [2])

/- diorama/dioramaref10.add -/
noncomputable def fref10_add (l_ : (List Sref10_Problem)) (kind_ : Int) (field_ : Int) (rule_ : Int) (e_ : Int) : Option ((List Sref10_Problem)) := (if (e_ == (0:Int)) = true then (some l_) else (rm (l_.length + [(Sref10_Problem.mk kind_ field_ rule_ e_)].length)).bind fun _ => (some (l_ ++ [(Sref10_Problem.mk kind_ field_ rule_ e_)])))
set_option maxRecDepth 100000 in
set_option maxHeartbeats 4000000 in
theorem ref10_add_ok {vh0 : Value} {l_ : (List Sref10_Problem)} {kind_ : Int} {field_ : Int} {rule_ : Int} {e_ : Int} {r : (List Sref10_Problem)} (h : fref10_add l_ kind_ field_ rule_ e_ = some r) : FnOk Tryz.prog 39 [tv vh0,ti kind_,ti field_,ti rule_,ti e_] [own rSref10_Problem 62 l_ vh0] (fun v => [own rSref10_Problem 62 r v]) (fun v => tv v) := by
 unfold fref10_add at h
 refine FnOk.enter Tryz.func39 rfl Tryz.ntmps39 (leb rfl) (fun M0 M w0 a hpl hst => ?_)
 replace hst : St M w0 22 [(0,tv vh0),(1,ti kind_),(2,ti field_),(3,ti rule_),(4,ti e_)] [own rSref10_Problem 62 l_ vh0] a w0 := hst
 refine sr mixed [] hst (fun _ => .o (op_assign .k) <| .n) fun n0 a w hst => ?_
 replace hst := hst.to [1,2,3,4,5] [_,_,_,_,_] [_] rfl rfl
 refine wp_seq_k (fun K3 hK3 => ?_)
 refine sr mixed [] hst (fun _ => .q 4 rfl <| .o (op_eql z0 .k) <| .n) fun n1 a w hst => ?_
 replace hst := hst.to [1,2,3,4,5,6] [_,_,_,_,_,_] [_] rfl rfl
 refine wt hst (fun b7 => ?_) (fun b7 => ?_)
 ·replace h := ite_t b7 h
  refine sr mixed [] hst (fun _ => .q 1 rfl <| .o (op_assign z0) <| .n) fun n2 a w hst => ?_
  replace hst := hst.to [0,1,3] [_,_,_] [_] rfl rfl
  refine wp_ret ?_
  obtain rfl := sj h
  exact ret_st vh0 [0] hpl hst rfl (.tmp z1 .nil) rfl rfl rfl
 ·replace h := ite_f b7 h
  refine wp_skip ?_
  refine hK3 _ _ ?_
  try clear hK3 K3
  refine wp_seq_k (fun K6 hK6 => ?_)
  obtain ⟨u21,hu21,h⟩ := bind_some h
  refine wr mixed [v1 7 (fun v0 => own rSref10_Problem 62 (l_ ++ [(Sref10_Problem.mk kind_ field_ rule_ e_)]) v0)] hst (fun _ => .q 1 rfl <| .q 3 rfl <| .q 5 rfl <| .q 7 rfl <| .q 9 rfl <| .p (T := rSref10_Problem.ty (Sref10_Problem.mk kind_ field_ rule_ e_)) rfl (op_build ud62 pl62 zv62 zc62 (.cons (R := rI) (u := kind_) rfl z3 (leb rfl) <| .cons (R := rI) (u := field_) rfl z2 (leb rfl) <| .cons (R := rI) (u := rule_) rfl z1 (leb rfl) <| .cons (R := rI) (u := e_) rfl z0 (leb rfl) <| .nil _)) <| .o (op_buildSl (R := rSref10_Problem) (us := [(Sref10_Problem.mk kind_ field_ rule_ e_)]) ud26 tok62 (.cons z0 <| .nil _) rfl (leb rfl)) <| .e [] [0] [1] rfl rfl rfl rfl (op_append (R := rSref10_Problem) ud26 tok62 (leb rfl) z6 z0 hu21) <| .ud (f := fun v => tv v) 7 rfl [] rfl rfl (op_assign z0) <| .n) fun n3 a w hst => ?_
  replace hst := hst.to [7,8] [_,_] [_] rfl rfl
  refine hK6 _ _ ?_
  try clear hK6 K6
  refine wp_ret ?_
  obtain rfl := sj h
  exact ret_st (n3 7) [0] hpl hst rfl (.tmp z1 .nil) rfl rfl rfl

/- diorama/dioramaref10.Kind -/
noncomputable def fref10_Kind (x_ : Sapi_Schema) (name_ : Str) : Option (Int) := (tailrec (fun (s4 : Int) => ((if (decide (s4 < ((x_).Kinds.length : Int))) = true then (idx (x_).Kinds s4).bind fun t16 => (if ((t16).Name == name_) = true then (some (.inr (.inr s4))) else (some (.inl (IntKind.i64.wrap (s4 + (1:Int)))))) else (some (.inr (.inl ())))) : Option ((Int) ⊕ ((Unit) ⊕ (Int))))) (0:Int)).bind fun (e5 : (Unit) ⊕ (Int)) => (match e5 with | .inl _ => (some (-1:Int)) | .inr p21 => (some p21))
set_option maxRecDepth 100000 in
set_option maxHeartbeats 4000000 in
theorem ref10_Kind_ok {x_ : Sapi_Schema} {name_ : Str} {r : Int} (h : fref10_Kind x_ name_ = some r) : FnOk Tryz.prog 19 [rSapi_Schema.ty x_,tv (.string (sB name_))] [] (fun _ => []) (fun _ => ti r) := by
 unfold fref10_Kind at h
 refine FnOk.enter Tryz.func19 rfl Tryz.ntmps19 (leb rfl) (fun M0 M w0 a hpl hst => ?_)
 replace hst : St M w0 22 [(0,rSapi_Schema.ty x_),(1,tv (.string (sB name_)))] [] a w0 := hst
 refine sr mixed [] hst (fun _ => .o (op_boxR (R := rSapi_Schema) (u := x_) z0) <| .o (op_assign .k) <| .n) fun n0 a w hst => ?_
 replace hst := hst.to [0,3] [_,_] [] rfl rfl
 refine wp_seq_k (fun K2 hK2 => ?_)
 refine sr mixed [] hst (fun _ => .o (op_assign .k) <| .n) fun n1 a w hst => ?_
 replace hst := hst.to [0,1,2] [_,_,_] [] rfl rfl
 obtain ⟨e5,he5,h⟩ := bind_some h
 have hJp20 : ∀ (p20 : Unit) a w,(.inl p20) = e5 → St M w0 22 [] [] a w → K2 a w := by
  intro p20 a w he hst
  subst he
  simp only at h
  refine hK2 _ _ ?_
  try clear hK2 K2
  refine sr mixed [] hst (fun _ => .o (op_assign .k) <| .n) fun n6 a w hst => ?_
  replace hst := hst.to [0] [_] [] rfl rfl
  refine wp_ret ?_
  obtain rfl := sj h
  exact ret_st undef [] hpl hst rfl (.tmp z0 .nil) rfl rfl rfl
 have hJp21 : ∀ (p21 : Int) a w,(.inr p21) = e5 → St M w0 22 [(4,ti p21)] [] a w → Ret Tryz.prog Tryz.f19 M0 [] w0 (fun _ => []) (fun _ => ti r) .ret a w := by
  intro p21 a w he hst
  subst he
  simp only at h
  obtain rfl := sj h
  exact ret_st undef [] hpl hst rfl (.tmp z0 .nil) rfl rfl rfl
 refine wp_block ?_
 refine wp_loopK _ (fun (s4 : Int) a w => St M w0 22 [(5,ti s4),(2,tptr (rSapi_Schema.cs x_)),(1,tv (.string (sB name_)))] [] a w) _ _ he5 (hst.pick [0,1,2]) ?_
 clear h
 intro s4 o a w K23 hI h ho hK23
 have hst := hI
 clear hI
 refine wp_seq_k (fun K24 hK24 => ?_)
 refine sr mixed [] hst (fun _ => .q 0 rfl <| .o (op_field fld34_1 z2) <| .o (op_loadT (R := (rSl rSapi_Kind)) (u := (x_).Kinds) tok30 z0 rfl) <| .o (op_len ud30 z0) <| .o (op_lss z3 z0) <| .n) fun n2 a w hst => ?_
 replace hst := hst.to [4,5,6,7] [_,_,_,_] [] rfl rfl
 refine wt hst (fun b30 => ?_) (fun b30 => ?_)
 ·replace h := ite_t b30 h
  refine wp_skip ?_
  refine hK24 _ _ ?_
  try clear hK24 K24
  refine wp_seq_k (fun K26 hK26 => ?_)
  refine wp_block ?_
  obtain ⟨t16,ht16,h⟩ := bind_some h
  refine sr mixed [] hst (fun _ => .o (op_field fld34_1 z2) <| .o (op_loadT (R := (rSl rSapi_Kind)) (u := (x_).Kinds) tok30 z0 rfl) <| .q 3 rfl <| .o (op_index ud30 tok47 z1 z0 ht16) <| .o (op_field fld47_0 z0) <| .o (op_loadT (R := rS) (u := (t16).Name) tok9 z0 rfl) <| .q 9 rfl <| .o (op_eqlS z1 z0) <| .n) fun n4 a w hst => ?_
  replace hst := hst.to [7,9,10,11] [_,_,_,_] [] rfl rfl
  refine wt hst (fun b29 => ?_) (fun b29 => ?_)
  ·replace h := ite_t b29 h
   refine sr mixed [] hst (fun _ => .q 1 rfl <| .o (op_assign z0) <| .n) fun n5 a w hst => ?_
   replace hst := hst.to [1] [_] [] rfl rfl
   refine wp_ret ?_
   exact hJp21 _ _ _ (ho _ (sj h).symm) (hst.pick [0])
  ·replace h := ite_f b29 h
   refine wp_skip ?_
   refine hK26 _ _ ?_
   try clear hK26 K26
   refine wr mixed [] hst (fun _ => .q 1 rfl <| .o (op_add z0 .k) <| .o (op_assign z0) <| .n) fun n3 a w hst => ?_
   replace hst := hst.to [2,4,5] [_,_,_] [] rfl rfl
   exact hK23 _ _ _ (sj h).symm (hst.pick [0,1,2])
 ·replace h := ite_f b30 h
  refine wp_exit ?_
  exact hJp20 _ _ _ (ho _ (sj h).symm) (hst.pick [])

/- diorama/dioramaref10.keyed -/
noncomputable def fref10_keyed (l_ : (List Sapi_Field)) : Option (Bool) := (if ((l_.length : Int) == (0:Int)) = true then (some false) else (idx l_ (0:Int)).bind fun t7 => (some ((t7).Kind == (0:Int))))
set_option maxRecDepth 100000 in
set_option maxHeartbeats 4000000 in
theorem ref10_keyed_ok {l_ : (List Sapi_Field)} {r : Bool} (h : fref10_keyed l_ = some r) : FnOk Tryz.prog 40 [tsl rSapi_Field l_] [] (fun _ => []) (fun _ => tb r) := by
 unfold fref10_keyed at h
 refine FnOk.enter Tryz.func40 rfl Tryz.ntmps40 (leb rfl) (fun M0 M w0 a hpl hst => ?_)
 replace hst : St M w0 11 [(0,tsl rSapi_Field l_)] [] a w0 := hst
 refine sr mixed [] hst (fun _ => .o (op_assign .k) <| .n) fun n0 a w hst => ?_
 replace hst := hst.to [1] [_] [] rfl rfl
 refine wp_seq_k (fun K2 hK2 => ?_)
 refine sr mixed [] hst (fun _ => .q 0 rfl <| .o (op_len ud45 z0) <| .o (op_eql z0 .k) <| .n) fun n1 a w hst => ?_
 replace hst := hst.to [2,3] [_,_] [] rfl rfl
 refine wt hst (fun b6 => ?_) (fun b6 => ?_)
 ·replace h := ite_t b6 h
  refine sr mixed [] hst (fun _ => .o (op_assign .k) <| .n) fun n2 a w hst => ?_
  replace hst := hst.to [0] [_] [] rfl rfl
  refine wp_ret ?_
  obtain rfl := sj h
  exact ret_st undef [] hpl hst rfl (.tmp z0 .nil) rfl rfl rfl
 ·replace h := ite_f b6 h
  refine wp_skip ?_
  refine hK2 _ _ ?_
  try clear hK2 K2
  obtain ⟨t7,ht7,h⟩ := bind_some h
  refine sr mixed [] hst (fun _ => .q 1 rfl <| .o (op_index ud45 tok44 z0 .k ht7) <| .o (op_field fld44_3 z0) <| .o (op_loadT (R := rI) (u := (t7).Kind) tok3 z0 rfl) <| .o (op_eql z0 .k) <| .o (op_assign z0) <| .n) fun n3 a w hst => ?_
  replace hst := hst.to [5] [_] [] rfl rfl
  refine wp_ret ?_
  obtain rfl := sj h
  exact ret_st undef [] hpl hst rfl (.tmp z0 .nil) rfl rfl rfl

/- diorama/dioramaref10.Field -/
noncomputable def fref10_Field (k_ : Sapi_Kind) (name_ : Str) : Option (Int) := (tailrec (fun (s4 : Int) => ((if (decide (s4 < ((k_).Fields.length : Int))) = true then (idx (k_).Fields s4).bind fun t16 => (if ((t16).Name == name_) = true then (some (.inr (.inr s4))) else (some (.inl (IntKind.i64.wrap (s4 + (1:Int)))))) else (some (.inr (.inl ())))) : Option ((Int) ⊕ ((Unit) ⊕ (Int))))) (0:Int)).bind fun (e5 : (Unit) ⊕ (Int)) => (match e5 with | .inl _ => (some (-1:Int)) | .inr p21 => (some p21))
set_option maxRecDepth 100000 in
set_option maxHeartbeats 4000000 in
theorem ref10_Field_ok {k_ : Sapi_Kind} {name_ : Str} {r : Int} (h : fref10_Field k_ name_ = some r) : FnOk Tryz.prog 21 [rSapi_Kind.ty k_,tv (.string (sB name_))] [] (fun _ => []) (fun _ => ti r) := by
 unfold fref10_Field at h
 refine FnOk.enter Tryz.func21 rfl Tryz.ntmps21 (leb rfl) (fun M0 M w0 a hpl hst => ?_)
 replace hst : St M w0 22 [(0,rSapi_Kind.ty k_),(1,tv (.string (sB name_)))] [] a w0 := hst
 refine sr mixed [] hst (fun _ => .o (op_boxR (R := rSapi_Kind) (u := k_) z0) <| .o (op_assign .k) <| .n) fun n0 a w hst => ?_
 replace hst := hst.to [0,3] [_,_] [] rfl rfl
 refine wp_seq_k (fun K2 hK2 => ?_)
 refine sr mixed [] hst (fun _ => .o (op_assign .k) <| .n) fun n1 a w hst => ?_
 replace hst := hst.to [0,1,2] [_,_,_] [] rfl rfl
 obtain ⟨e5,he5,h⟩ := bind_some h
 have hJp20 : ∀ (p20 : Unit) a w,(.inl p20) = e5 → St M w0 22 [] [] a w → K2 a w := by
  intro p20 a w he hst
  subst he
  simp only at h
  refine hK2 _ _ ?_
  try clear hK2 K2
  refine sr mixed [] hst (fun _ => .o (op_assign .k) <| .n) fun n6 a w hst => ?_
  replace hst := hst.to [0] [_] [] rfl rfl
  refine wp_ret ?_
  obtain rfl := sj h
  exact ret_st undef [] hpl hst rfl (.tmp z0 .nil) rfl rfl rfl
 have hJp21 : ∀ (p21 : Int) a w,(.inr p21) = e5 → St M w0 22 [(4,ti p21)] [] a w → Ret Tryz.prog Tryz.f21 M0 [] w0 (fun _ => []) (fun _ => ti r) .ret a w := by
  intro p21 a w he hst
  subst he
  simp only at h
  obtain rfl := sj h
  exact ret_st undef [] hpl hst rfl (.tmp z0 .nil) rfl rfl rfl
 refine wp_block ?_
 refine wp_loopK _ (fun (s4 : Int) a w => St M w0 22 [(5,ti s4),(2,tptr (rSapi_Kind.cs k_)),(1,tv (.string (sB name_)))] [] a w) _ _ he5 (hst.pick [0,1,2]) ?_
 clear h
 intro s4 o a w K23 hI h ho hK23
 have hst := hI
 clear hI
 refine wp_seq_k (fun K24 hK24 => ?_)
 refine sr mixed [] hst (fun _ => .q 0 rfl <| .o (op_field fld47_3 z2) <| .o (op_loadT (R := (rSl rSapi_Field)) (u := (k_).Fields) tok45 z0 rfl) <| .o (op_len ud45 z0) <| .o (op_lss z3 z0) <| .n) fun n2 a w hst => ?_
 replace hst := hst.to [4,5,6,7] [_,_,_,_] [] rfl rfl
 refine wt hst (fun b30 => ?_) (fun b30 => ?_)
 ·replace h := ite_t b30 h
  refine wp_skip ?_
  refine hK24 _ _ ?_
  try clear hK24 K24
  refine wp_seq_k (fun K26 hK26 => ?_)
  refine wp_block ?_
  obtain ⟨t16,ht16,h⟩ := bind_some h
  refine sr mixed [] hst (fun _ => .o (op_field fld47_3 z2) <| .o (op_loadT (R := (rSl rSapi_Field)) (u := (k_).Fields) tok45 z0 rfl) <| .q 3 rfl <| .o (op_index ud45 tok44 z1 z0 ht16) <| .o (op_field fld44_0 z0) <| .o (op_loadT (R := rS) (u := (t16).Name) tok9 z0 rfl) <| .q 9 rfl <| .o (op_eqlS z1 z0) <| .n) fun n4 a w hst => ?_
  replace hst := hst.to [7,9,10,11] [_,_,_,_] [] rfl rfl
  refine wt hst (fun b29 => ?_) (fun b29 => ?_)
  ·replace h := ite_t b29 h
   refine sr mixed [] hst (fun _ => .q 1 rfl <| .o (op_assign z0) <| .n) fun n5 a w hst => ?_
   replace hst := hst.to [1] [_] [] rfl rfl
   refine wp_ret ?_
   exact hJp21 _ _ _ (ho _ (sj h).symm) (hst.pick [0])
  ·replace h := ite_f b29 h
   refine wp_skip ?_
   refine hK26 _ _ ?_
   try clear hK26 K26
   refine wr mixed [] hst (fun _ => .q 1 rfl <| .o (op_add z0 .k) <| .o (op_assign z0) <| .n) fun n3 a w hst => ?_
   replace hst := hst.to [2,4,5] [_,_,_] [] rfl rfl
   exact hK23 _ _ _ (sj h).symm (hst.pick [0,1,2])
 ·replace h := ite_f b30 h
  refine wp_exit ?_
  exact hJp20 _ _ _ (ho _ (sj h).symm) (hst.pick [])

/- diorama/dioramaref10.Has -/
noncomputable def fref10_Has (x_ : Sapi_Schema) (kind_ : Int) (field_ : Int) : Option (Bool) := (if (((decide (kind_ < (0:Int))) || (decide (kind_ ≥ ((x_).Kinds.length : Int)))) || (decide (field_ < (0:Int)))) = true then (some false) else (idx (x_).Kinds kind_).bind fun t24 => (some (decide (field_ < ((t24).Fields.length : Int)))))
set_option maxRecDepth 100000 in
set_option maxHeartbeats 4000000 in
theorem ref10_Has_ok {x_ : Sapi_Schema} {kind_ : Int} {field_ : Int} {r : Bool} (h : fref10_Has x_ kind_ field_ = some r) : FnOk Tryz.prog 17 [rSapi_Schema.ty x_,ti kind_,ti field_] [] (fun _ => []) (fun _ => tb r) := by
 unfold fref10_Has at h
 refine FnOk.enter Tryz.func17 rfl Tryz.ntmps17 (leb rfl) (fun M0 M w0 a hpl hst => ?_)
 replace hst : St M w0 29 [(0,rSapi_Schema.ty x_),(1,ti kind_),(2,ti field_)] [] a w0 := hst
 refine sr mixed [] hst (fun _ => .o (op_boxR (R := rSapi_Schema) (u := x_) z0) <| .o (op_assign .k) <| .n) fun n0 a w hst => ?_
 replace hst := hst.to [0,3,4] [_,_,_] [] rfl rfl
 refine wp_seq_k (fun K2 hK2 => ?_)
 refine sr mixed [] hst (fun _ => .q 1 rfl <| .o (op_lss z0 .k) <| .q 0 rfl <| .g rfl rfl (.b 0 rfl) (fun _ => op_move z4) <| .g rfl rfl (.b 1 rfl) (fun _ => op_field fld34_1 z4) <| .g rfl rfl (.b 2 rfl) (fun hc => op_loadT (R := (rSl rSapi_Kind)) (u := (x_).Kinds) tok30 (.cond z0 hc) rfl) <| .g rfl rfl (.b 3 rfl) (fun hc => op_len ud30 (.cond z0 hc)) <| .g rfl rfl (.b 4 rfl) (fun hc => op_geq (.cond z3 hc) (.cond z0 hc)) <| .o (op_or z5 (fun hp => (.cond z0 (beqF hp)))) <| .q 0 rfl <| .g rfl rfl (.b 0 rfl) (fun _ => op_move z12) <| .g rfl rfl (.b 1 rfl) (fun hc => op_lss (.cond z0 hc) .k) <| .o (op_or z2 (fun hp => (.cond z0 (beqF hp)))) <| .n) fun n1 a w hst => ?_
 replace hst := hst.to [12,13,14,15] [_,_,_,_] [] rfl rfl
 refine wt hst (fun b6 => ?_) (fun b6 => ?_)
 ·replace h := ite_t b6 h
  refine sr mixed [] hst (fun _ => .o (op_assign .k) <| .n) fun n2 a w hst => ?_
  replace hst := hst.to [0] [_] [] rfl rfl
  refine wp_ret ?_
  obtain rfl := sj h
  exact ret_st undef [] hpl hst rfl (.tmp z0 .nil) rfl rfl rfl
 ·replace h := ite_f b6 h
  refine wp_skip ?_
  refine hK2 _ _ ?_
  try clear hK2 K2
  obtain ⟨t24,ht24,h⟩ := bind_some h
  refine sr mixed [] hst (fun _ => .q 3 rfl <| .o (op_field fld34_1 z2) <| .o (op_loadT (R := (rSl rSapi_Kind)) (u := (x_).Kinds) tok30 z0 rfl) <| .q 5 rfl <| .o (op_index ud30 tok47 z1 z0 ht24) <| .o (op_field fld47_3 z0) <| .o (op_loadT (R := (rSl rSapi_Field)) (u := (t24).Fields) tok45 z0 rfl) <| .o (op_len ud45 z0) <| .o (op_lss z7 z0) <| .o (op_assign z0) <| .n) fun n3 a w hst => ?_
  replace hst := hst.to [9] [_] [] rfl rfl
  refine wp_ret ?_
  obtain rfl := sj h
  exact ret_st undef [] hpl hst rfl (.tmp z0 .nil) rfl rfl rfl

/- diorama/dioramaref10.Up -/
noncomputable def fref10_Up (x_ : Sapi_Schema) (kind_ : Int) (field_ : Int) : Option (Int) := (fref10_Has x_ kind_ field_).bind fun t13 => (if (!t13) = true then (some (-1:Int)) else (idx (x_).Kinds kind_).bind fun t18 => (idx (t18).Fields field_).bind fun t22 => (jn (fun (p9 : Sapi_Field) => (if ((p9).Kind != (1:Int)) = true then (some (-1:Int)) else (fref10_Kind x_ (p9).Of).bind fun t62 => (if (decide (t62 ≥ kind_)) = true then (some (-1:Int)) else (some t62)))) fun j16 => (if (((t22).Kind == (7:Int)) || ((t22).Kind == (8:Int))) = true then (idx (x_).Kinds kind_).bind fun t35 => (fref10_Field t35 (t22).Up).bind fun t39 => (if ((decide (t39 < (0:Int))) || (decide (t39 ≥ field_))) = true then (some (-1:Int)) else (idx (x_).Kinds kind_).bind fun t50 => (idx (t50).Fields t39).bind fun t54 => (j16 t54)) else (j16 t22))))
set_option maxRecDepth 100000 in
set_option maxHeartbeats 4000000 in
theorem ref10_Up_ok {x_ : Sapi_Schema} {kind_ : Int} {field_ : Int} {r : Int} (h : fref10_Up x_ kind_ field_ = some r) : FnOk Tryz.prog 16 [rSapi_Schema.ty x_,ti kind_,ti field_] [] (fun _ => []) (fun _ => ti r) := by
 unfold fref10_Up at h
 refine FnOk.enter Tryz.func16 rfl Tryz.ntmps16 (leb rfl) (fun M0 M w0 a hpl hst => ?_)
 replace hst : St M w0 67 [(0,rSapi_Schema.ty x_),(1,ti kind_),(2,ti field_)] [] a w0 := hst
 refine sr mixed [] hst (fun _ => .o (op_boxR (R := rSapi_Schema) (u := x_) z0) <| .o (op_assign .k) <| .n) fun n0 a w hst => ?_
 replace hst := hst.to [0,3,4] [_,_,_] [] rfl rfl
 refine wp_seq_k (fun K2 hK2 => ?_)
 obtain ⟨t13,ht13,h⟩ := bind_some h
 refine sr mixed [] hst (fun _ => .o (op_load tok34 z0) <| .q 2 rfl <| .q 4 rfl <| .o (op_callF call17 (ref10_Has_ok ht13) (.cons (.of z2) <| .cons (.of z1) <| .cons (.of z0) <| .nil)) <| .o (op_not z0) <| .n) fun n1 a w hst => ?_
 replace hst := hst.to [4,5,6,7] [_,_,_,_] [] rfl rfl
 refine wt hst (fun b33 => ?_) (fun b33 => ?_)
 ·replace h := ite_t b33 h
  refine sr mixed [] hst (fun _ => .o (op_assign .k) <| .n) fun n2 a w hst => ?_
  replace hst := hst.to [0] [_] [] rfl rfl
  refine wp_ret ?_
  obtain rfl := sj h
  exact ret_st undef [] hpl hst rfl (.tmp z0 .nil) rfl rfl rfl
 ·replace h := ite_f b33 h
  refine wp_skip ?_
  refine hK2 _ _ ?_
  try clear hK2 K2
  obtain ⟨t18,ht18,h⟩ := bind_some h
  obtain ⟨t22,ht22,h⟩ := bind_some h
  refine sr mixed [v1 9 (fun v0 => box (rSapi_Field.cs zz0) v0),v1 9 (fun v0 => box (rSapi_Field.cs t22) v0)] hst (fun _ => .o (op_field fld34_1 z1) <| .o (op_loadT (R := (rSl rSapi_Kind)) (u := (x_).Kinds) tok30 z0 rfl) <| .q 4 rfl <| .o (op_index ud30 tok47 z1 z0 ht18) <| .o (op_field fld47_3 z0) <| .o (op_loadT (R := (rSl rSapi_Field)) (u := (t18).Fields) tok45 z0 rfl) <| .q 9 rfl <| .o (op_index ud45 tok44 z1 z0 ht22) <| .o (op_load tok44 z0) <| .m [] [0] rfl rfl rfl (op_alloc (R := rSapi_Field) (a := zz0) tok44 zok44) <| .e [] [0] [1] rfl rfl rfl rfl (op_storeB (R := rSapi_Field) (a := t22) tok44 z0 z1 (leb rfl)) <| .n) fun n3 a w hst => ?_
  replace hst := hst.to [9,11,12,13] [_,_,_,_] [_] rfl rfl
  refine wp_seq_k (fun K7 hK7 => ?_)
  refine sr mixed [] hst (fun _ => .u [0] rfl rfl (op_fieldB fld44_3 z0) <| .u [0] rfl rfl (op_loadBf (R := rI) (u := (t22).Kind) tok3 z0 rfl) <| .o (op_eql z0 .k) <| .q 0 rfl <| .gu [0] rfl rfl rfl (.b 0 rfl) (fun _ => op_fieldB fld44_3 z4) <| .gu [0] rfl rfl rfl (.b 1 rfl) (fun hc => op_loadBf (R := rI) (u := (t22).Kind) tok3 (.cond z0 hc) rfl) <| .g rfl rfl (.b 2 rfl) (fun hc => op_eql (.cond z0 hc) .k) <| .o (op_or z3 (fun hp => (.cond z0 (beqF hp)))) <| .n) fun n4 a w hst => ?_
  replace hst := hst.to [7,8,9,10,11] [_,_,_,_,_] [_] rfl rfl
  obtain ⟨j16,hj16,h⟩ := jn_elim h
  have hJp9 : ∀ (p9 : Sapi_Field) a w,j16 p9 = some r → St M w0 67 [(7,tv (n3 9)),(3,tptr (rSapi_Schema.cs x_)),(1,ti kind_)] [box (rSapi_Field.cs p9) (n3 9)] a w → K7 a w := by
   intro p9 a w h hst
   rw [hj16] at h
   clear hj16
   refine hK7 _ _ ?_
   try clear hK7 K7
   refine wp_seq_k (fun K17 hK17 => ?_)
   refine sr mixed [] hst (fun _ => .u [0] rfl rfl (op_fieldB fld44_3 z0) <| .u [0] rfl rfl (op_loadBf (R := rI) (u := (p9).Kind) tok3 z0 rfl) <| .o (op_neq z0 .k) <| .n) fun n9 a w hst => ?_
   replace hst := hst.to [2,3,4,5] [_,_,_,_] [_] rfl rfl
   refine wt hst (fun b26 => ?_) (fun b26 => ?_)
   ·replace h := ite_t b26 h
    refine sr mixed [] hst (fun _ => .o (op_assign .k) <| .n) fun n10 a w hst => ?_
    replace hst : St _ _ _ [_] [] _ _ := (hst.pick [0]).selA [] rfl
    refine wp_ret ?_
    obtain rfl := sj h
    exact ret_st undef [] hpl hst rfl (.tmp z0 .nil) rfl rfl rfl
   ·replace h := ite_f b26 h
    refine wp_skip ?_
    refine hK17 _ _ ?_
    try clear hK17 K17
    obtain ⟨t62,ht62,h⟩ := bind_some h
    refine sr mixed [] hst (fun _ => .o (op_load tok34 z2) <| .u [0] rfl rfl (op_fieldB fld44_1 z2) <| .u [0] rfl rfl (op_loadBf (R := rS) (u := (p9).Of) tok9 z0 rfl) <| .o (op_callF call19 (ref10_Kind_ok ht62) (.cons (.of z2) <| .cons (.of z0) <| .nil)) <| .o (op_assign z0) <| .n) fun n11 a w hst => ?_
    replace hst : St _ _ _ [_,_] [] _ _ := (hst.pick [4,8]).selA [] rfl
    refine wp_seq_k (fun K21 hK21 => ?_)
    refine sr mixed [] hst (fun _ => .q 0 rfl <| .q 2 rfl <| .o (op_geq z1 z0) <| .n) fun n12 a w hst => ?_
    replace hst := hst.to [2,3] [_,_] [] rfl rfl
    refine wt hst (fun b25 => ?_) (fun b25 => ?_)
    ·replace h := ite_t b25 h
     refine sr mixed [] hst (fun _ => .o (op_assign .k) <| .n) fun n13 a w hst => ?_
     replace hst := hst.to [0] [_] [] rfl rfl
     refine wp_ret ?_
     obtain rfl := sj h
     exact ret_st undef [] hpl hst rfl (.tmp z0 .nil) rfl rfl rfl
    ·replace h := ite_f b25 h
     refine wp_skip ?_
     refine hK21 _ _ ?_
     try clear hK21 K21
     refine sr mixed [] hst (fun _ => .q 1 rfl <| .o (op_assign z0) <| .n) fun n14 a w hst => ?_
     replace hst := hst.to [1] [_] [] rfl rfl
     refine wp_ret ?_
     obtain rfl := sj h
     exact ret_st undef [] hpl hst rfl (.tmp z0 .nil) rfl rfl rfl
  clear hj16
  refine wt hst (fun b32 => ?_) (fun b32 => ?_)
  ·replace h := ite_t b32 h
   obtain ⟨t35,ht35,h⟩ := bind_some h
   obtain ⟨t39,ht39,h⟩ := bind_some h
   refine sr mixed [] hst (fun _ => .o (op_field fld34_1 z2) <| .o (op_loadT (R := (rSl rSapi_Kind)) (u := (x_).Kinds) tok30 z0 rfl) <| .q 5 rfl <| .o (op_index ud30 tok47 z1 z0 ht35) <| .o (op_load tok47 z0) <| .u [0] rfl rfl (op_fieldB fld44_2 z6) <| .u [0] rfl rfl (op_loadBf (R := rS) (u := (t22).Up) tok9 z0 rfl) <| .o (op_callF call21 (ref10_Field_ok ht39) (.cons (.of z2) <| .cons (.of z0) <| .nil)) <| .o (op_assign z0) <| .n) fun n5 a w hst => ?_
   replace hst := hst.to [8,10,11,12,13] [_,_,_,_,_] [_] rfl rfl
   refine wp_seq_k (fun K28 hK28 => ?_)
   refine sr mixed [] hst (fun _ => .q 0 rfl <| .o (op_lss z0 .k) <| .q 0 rfl <| .g rfl rfl (.b 0 rfl) (fun _ => op_move z3) <| .g rfl rfl (.b 1 rfl) (fun _ => op_move z8) <| .g rfl rfl (.b 2 rfl) (fun hc => op_geq (.cond z1 hc) (.cond z0 hc)) <| .o (op_or z3 (fun hp => (.cond z0 (beqF hp)))) <| .n) fun n6 a w hst => ?_
   replace hst := hst.to [6,7,8,9,10] [_,_,_,_,_] [_] rfl rfl
   refine wt hst (fun b31 => ?_) (fun b31 => ?_)
   ·replace h := ite_t b31 h
    refine sr mixed [] hst (fun _ => .o (op_assign .k) <| .n) fun n7 a w hst => ?_
    replace hst : St _ _ _ [_] [] _ _ := (hst.pick [0]).selA [] rfl
    refine wp_ret ?_
    obtain rfl := sj h
    exact ret_st undef [] hpl hst rfl (.tmp z0 .nil) rfl rfl rfl
   ·replace h := ite_f b31 h
    refine wp_skip ?_
    refine hK28 _ _ ?_
    try clear hK28 K28
    obtain ⟨t50,ht50,h⟩ := bind_some h
    obtain ⟨t54,ht54,h⟩ := bind_some h
    refine wr mixed [v0 (box (rSapi_Field.cs t54) (n3 9))] hst (fun _ => .o (op_field fld34_1 z3) <| .o (op_loadT (R := (rSl rSapi_Kind)) (u := (x_).Kinds) tok30 z0 rfl) <| .q 6 rfl <| .o (op_index ud30 tok47 z1 z0 ht50) <| .o (op_field fld47_3 z0) <| .o (op_loadT (R := (rSl rSapi_Field)) (u := (t50).Fields) tok45 z0 rfl) <| .q 7 rfl <| .o (op_index ud45 tok44 z1 z0 ht54) <| .o (op_load tok44 z0) <| .e [] [0] [1] rfl rfl rfl rfl (op_storeB (R := rSapi_Field) (a := t54) tok44 z11 z0 (leb rfl)) <| .n) fun n8 a w hst => ?_
    replace hst := hst.to [11,12,13] [_,_,_] [_] rfl rfl
    exact hJp9 _ _ _ h (hst.pick [0,1,2])
  ·replace h := ite_f b32 h
   refine wp_skip ?_
   exact hJp9 _ _ _ h (hst.pick [1,2,3])

/- diorama/dioramaref10.Sums -/
noncomputable def fref10_Sums (x_ : Sapi_Schema) (kind_ : Int) (field_ : Int) : Option (Int × (List Int)) := (idx (x_).Kinds kind_).bind fun t16 => (idx (t16).Fields field_).bind fun t20 => (fref10_Kind x_ (t20).Of).bind fun t25 => (if (((t20).Kind != (6:Int)) || (decide (t25 ≤ kind_))) = true then (some ((-1:Int),([] : List Int))) else (idx (x_).Kinds t25).bind fun t37 => (tailrec (fun (s13 : Int × List Int) => ((if (decide (s13.1 < ((t37).Fields.length : Int))) = true then (idx (t37).Fields s13.1).bind fun t48 => (opt (((t48).Kind == (7:Int)) == true) (idx (t37).Fields s13.1) default).bind fun t55 => (opt ((((t48).Kind == (7:Int)) && ((t55).Of == (t20).Name)) == true) (fref10_Up x_ t25 s13.1) default).bind fun t66 => ((if ((((t48).Kind == (7:Int)) && ((t55).Of == (t20).Name)) && (t66 == kind_)) = true then (rm (s13.2.length + [s13.1].length)).bind fun _ => (some (s13.2 ++ [s13.1])) else (some s13.2))).bind fun (p42 : List Int) => (some (.inl ((IntKind.i64.wrap (s13.1 + (1:Int))),p42))) else (some (.inr s13.2))) : Option ((Int × List Int) ⊕ ((List Int))))) ((0:Int),([] : List Int))).bind fun (p34 : (List Int)) => (some (t25,p34)))
set_option maxRecDepth 100000 in
set_option maxHeartbeats 4000000 in
theorem ref10_Sums_ok {x_ : Sapi_Schema} {kind_ : Int} {field_ : Int} {r : Int × (List Int)} (h : fref10_Sums x_ kind_ field_ = some r) : FnOk Tryz.prog 46 [rSapi_Schema.ty x_,ti kind_,ti field_] [] (fun _ => []) (fun _ => ttup [ti r.1,tsl rI r.2]) := by
 unfold fref10_Sums at h
 refine FnOk.enter Tryz.func46 rfl Tryz.ntmps46 (leb rfl) (fun M0 M w0 a hpl hst => ?_)
 replace hst : St M w0 76 [(0,rSapi_Schema.ty x_),(1,ti kind_),(2,ti field_)] [] a w0 := hst
 refine sr mixed [] hst (fun _ => .o (op_boxR (R := rSapi_Schema) (u := x_) z0) <| .o (op_assign .k) <| .o (op_assign (.nilsl (R := rI))) <| .n) fun n0 a w hst => ?_
 replace hst := hst.to [0,4,5] [_,_,_] [] rfl rfl
 obtain ⟨t16,ht16,h⟩ := bind_some h
 obtain ⟨t20,ht20,h⟩ := bind_some h
 refine sr mixed [v1 9 (fun v0 => box (rSapi_Field.cs zz0) v0),v1 9 (fun v0 => box (rSapi_Field.cs t20) v0)] hst (fun _ => .o (op_field fld34_1 z0) <| .o (op_loadT (R := (rSl rSapi_Kind)) (u := (x_).Kinds) tok30 z0 rfl) <| .q 3 rfl <| .o (op_index ud30 tok47 z1 z0 ht16) <| .o (op_field fld47_3 z0) <| .o (op_loadT (R := (rSl rSapi_Field)) (u := (t16).Fields) tok45 z0 rfl) <| .q 8 rfl <| .o (op_index ud45 tok44 z1 z0 ht20) <| .o (op_load tok44 z0) <| .m [] [0] rfl rfl rfl (op_alloc (R := rSapi_Field) (a := zz0) tok44 zok44) <| .e [] [0] [1] rfl rfl rfl rfl (op_storeB (R := rSapi_Field) (a := t20) tok44 z0 z1 (leb rfl)) <| .n) fun n1 a w hst => ?_
 replace hst : St _ _ _ [_,_,_] [] _ _ := (((hst.pick [9,10,11]).shareB 0 rfl).add 0 rfl (fun _ _ _ h => h.2)).pick [0,3,4]
 obtain ⟨t25,ht25,h⟩ := bind_some h
 refine sr mixed [] hst (fun _ => .o (op_load tok34 z1) <| .o (op_field fld44_1 z1) <| .o (op_loadT (R := rS) (u := (t20).Of) tok9 z0 rfl) <| .o (op_callF call19 (ref10_Kind_ok ht25) (.cons (.of z2) <| .cons (.of z0) <| .nil)) <| .o (op_assign z0) <| .n) fun n2 a w hst => ?_
 replace hst := hst.to [4,5,6,7] [_,_,_,_] [] rfl rfl
 refine wp_seq_k (fun K5 hK5 => ?_)
 refine sr mixed [] hst (fun _ => .o (op_field fld44_3 z1) <| .o (op_loadT (R := rI) (u := (t20).Kind) tok3 z0 rfl) <| .o (op_neq z0 .k) <| .q 0 rfl <| .g rfl rfl (.b 0 rfl) (fun _ => op_move z4) <| .g rfl rfl (.b 1 rfl) (fun _ => op_move z8) <| .g rfl rfl (.b 2 rfl) (fun hc => op_leq (.cond z1 hc) (.cond z0 hc)) <| .o (op_or z3 (fun hp => (.cond z0 (beqF hp)))) <| .n) fun n3 a w hst => ?_
 replace hst := hst.to [7,8,9,10,11] [_,_,_,_,_] [] rfl rfl
 refine wt hst (fun b47 => ?_) (fun b47 => ?_)
 ·replace h := ite_t b47 h
  refine sr mixed [] hst (fun _ => .o (op_assign .k) <| .o (op_assign (.nilsl (R := rI))) <| .n) fun n4 a w hst => ?_
  replace hst := hst.to [0,1] [_,_] [] rfl rfl
  refine wp_ret ?_
  obtain rfl := sj h
  exact ret_st undef [] hpl hst rfl (.tmp z0 (.tmp z1 .nil)) rfl rfl rfl
 ·replace h := ite_f b47 h
  refine wp_skip ?_
  refine hK5 _ _ ?_
  try clear hK5 K5
  refine sr mixed [] hst (fun _ => .o (op_assign .k) <| .n) fun n5 a w hst => ?_
  replace hst : St _ _ _ [_,_,_,_,_] [_] _ _ := (hst.pick [0,2,3,4,5]).nil (rI) 3
  obtain ⟨t37,ht37,h⟩ := bind_some h
  refine sr mixed [] hst (fun _ => .o (op_field fld34_1 z3) <| .o (op_loadT (R := (rSl rSapi_Kind)) (u := (x_).Kinds) tok30 z0 rfl) <| .q 3 rfl <| .o (op_index ud30 tok47 z1 z0 ht37) <| .o (op_field fld47_3 z0) <| .o (op_loadT (R := (rSl rSapi_Field)) (u := (t37).Fields) tok45 z0 rfl) <| .o (op_assign z0) <| .n) fun n6 a w hst => ?_
  replace hst := hst.to [6,7,8,9,10,11] [_,_,_,_,_,_] [_] rfl rfl
  refine wp_seq_k (fun K11 hK11 => ?_)
  refine sr mixed [] hst (fun _ => .o (op_assign .k) <| .n) fun n7 a w hst => ?_
  replace hst := hst.to [0,1,2,3,4,5,6] [_,_,_,_,_,_,_] [_] rfl rfl
  obtain ⟨e14,he14,h⟩ := bind_some h
  have hJp34 : ∀ (p34 : List Int) (v35 : Value) a w,p34 = e14 → St M w0 76 [(10,tv v35),(9,ti t25)] [own rI 3 p34 v35] a w → K11 a w := by
   intro p34 v35 a w he hst
   subst he
   refine hK11 _ _ ?_
   try clear hK11 K11
   refine sr mixed [] hst (fun _ => .q 1 rfl <| .q 1 rfl <| .o (op_assign z1) <| .o (op_assign z1) <| .n) fun n12 a w hst => ?_
   replace hst := hst.to [1,2,3,4] [_,_,_,_] [_] rfl rfl
   refine wp_ret ?_
   replace hst : St _ _ _ [_,_] [] _ _ := (hst.shareO 2 rfl).pick [0,2]
   obtain rfl := sj h
   exact ret_st undef [] hpl hst rfl (.tmp z1 (.tmp z0 .nil)) rfl rfl rfl
  refine wp_block ?_
  refine wp_loopK _ (fun (s13 : Int × List Int) a w => ∃ v24 : Value,St M w0 76 [(12,ti s13.1),(11,tsl rSapi_Field (t37).Fields),(10,tv v24),(9,ti t25),(8,tptr (rSapi_Field.cs t20)),(3,tptr (rSapi_Schema.cs x_)),(1,ti kind_)] [own rI 3 s13.2 v24] a w) _ _ he14 ⟨(.slice none 0 0),hst.pick [0,1,2,3,4,5,6]⟩ ?_
  clear h
  intro s13 o a w K37 hI h ho hK37
  obtain ⟨v24,hst⟩ := hI
  refine wp_seq_k (fun K38 hK38 => ?_)
  refine sr mixed [] hst (fun _ => .q 0 rfl <| .q 2 rfl <| .o (op_len ud45 z0) <| .o (op_lss z2 z0) <| .n) fun n8 a w hst => ?_
  replace hst := hst.to [3,4,5,6,7,8,9,10] [_,_,_,_,_,_,_,_] [_] rfl rfl
  refine wt hst (fun b46 => ?_) (fun b46 => ?_)
  ·replace h := ite_t b46 h
   refine wp_skip ?_
   refine hK38 _ _ ?_
   try clear hK38 K38
   refine wp_seq_k (fun K40 hK40 => ?_)
   refine wp_block ?_
   obtain ⟨t48,ht48,h⟩ := bind_some h
   obtain ⟨t55,ht55,h⟩ := bind_some h
   obtain ⟨t66,ht66,h⟩ := bind_some h
   refine sr mixed [] hst (fun _ => .q 2 rfl <| .q 2 rfl <| .o (op_index ud45 tok44 z1 z0 ht48) <| .o (op_field fld44_3 z0) <| .o (op_loadT (R := rI) (u := (t48).Kind) tok3 z0 rfl) <| .o (op_eql z0 .k) <| .q 0 rfl <| .g rfl rfl (.b 0 rfl) (fun _ => op_move z9) <| .g rfl rfl (.b 1 rfl) (fun _ => op_move z9) <| .g rfl rfl (.b 2 rfl) (fun hc => op_index ud45 tok44 (.cond z1 hc) (.cond z0 hc) (opt_t ht55 hc)) <| .g rfl rfl (.b 3 rfl) (fun hc => op_field fld44_1 (.cond z0 hc)) <| .g rfl rfl (.b 4 rfl) (fun hc => op_loadT (R := rS) (u := (t55).Of) tok9 (.cond z0 hc) rfl) <| .g rfl rfl (.b 5 rfl) (fun _ => op_field fld44_0 z17) <| .g rfl rfl (.b 6 rfl) (fun hc => op_loadT (R := rS) (u := (t20).Name) tok9 (.cond z0 hc) rfl) <| .g rfl rfl (.b 7 rfl) (fun hc => op_eqlS (.cond z2 hc) (.cond z0 hc)) <| .o (op_and z8 (fun hp => (.cond z0 (beqT hp)))) <| .q 0 rfl <| .g rfl rfl (.b 0 rfl) (fun _ => op_load tok34 z23) <| .g rfl rfl (.b 1 rfl) (fun _ => op_move z22) <| .g rfl rfl (.b 2 rfl) (fun _ => op_move z20) <| .g rfl rfl (.b 3 rfl) (fun hc => op_callF call16 (ref10_Up_ok (opt_t ht66 hc)) (.cons (.of (.cond z2 hc)) <| .cons (.of (.cond z1 hc)) <| .cons (.of (.cond z0 hc)) <| .nil)) <| .g rfl rfl (.b 4 rfl) (fun _ => op_move z28) <| .g rfl rfl (.b 5 rfl) (fun hc => op_eql (.cond z1 hc) (.cond z0 hc)) <| .o (op_and z6 (fun hp => (.cond z0 (beqT hp)))) <| .n) fun n10 a w hst => ?_
   replace hst := hst.to [23,25,26,27,28,29,30,31] [_,_,_,_,_,_,_,_] [_] rfl rfl
   obtain ⟨p42,hp42,h⟩ := bind_some h
   have hJp42 : ∀ (v44 : Value) a w,St M w0 76 [(10,tv v44),(12,ti s13.1),(11,tsl rSapi_Field (t37).Fields),(9,ti t25),(8,tptr (rSapi_Field.cs t20)),(3,tptr (rSapi_Schema.cs x_)),(1,ti kind_)] [own rI 3 p42 v44] a w → K40 a w := by
    intro v44 a w hst
    refine hK40 _ _ ?_
    try clear hK40 K40
    refine wr mixed [] hst (fun _ => .q 1 rfl <| .o (op_add z0 .k) <| .o (op_assign z0) <| .n) fun n9 a w hst => ?_
    replace hst := hst.to [2,3,4,5,6,7,8] [_,_,_,_,_,_,_] [_] rfl rfl
    exact hK37 _ _ _ (sj h).symm ⟨v44,hst.pick [0,2,1,3,4,5,6]⟩
   replace h := hp42
   clear hp42
   refine wt hst (fun b45 => ?_) (fun b45 => ?_)
   ·replace h := ite_t b45 h
    obtain ⟨u73,hu73,h⟩ := bind_some h
    refine wr mixed [v1 3 (fun v0 => own rI 3 (s13.2 ++ [s13.1]) v0)] hst (fun _ => .q 3 rfl <| .q 2 rfl <| .o (op_buildSl (R := rI) (us := [s13.1]) ud22 tok3 (.cons z0 <| .nil _) rfl (leb rfl)) <| .e [] [0] [1] rfl rfl rfl rfl (op_append (R := rI) ud22 tok3 (leb rfl) z2 z0 hu73) <| .ud (f := fun v => tv v) 3 rfl [] rfl rfl (op_assign z0) <| .n) fun n11 a w hst => ?_
    replace hst := hst.to [3,4,6,7,8,9,10,11] [_,_,_,_,_,_,_,_] [_] rfl rfl
    obtain rfl := sj h
    exact hJp42 (n11 3) _ _ (hst.pick [1,2,3,4,5,6,7])
   ·replace h := ite_f b45 h
    refine wp_skip ?_
    obtain rfl := sj h
    exact hJp42 v24 _ _ (hst.pick [3,1,2,4,5,6,7])
  ·replace h := ite_f b46 h
   refine wp_exit ?_
   exact hJp34 _ v24 _ _ (ho _ (sj h).symm) (hst.pick [3,4])

/- diorama/dioramaref10.Above -/
noncomputable def fref10_Above (x_ : Sapi_Schema) (kind_ : Int) (field_ : Int) : Option (Int × Sapi_Field) := (fref10_Up x_ kind_ field_).bind fun t13 => (if (decide (t13 < (0:Int))) = true then (some ((-1:Int),zz0)) else (idx (x_).Kinds t13).bind fun t20 => (idx (x_).Kinds kind_).bind fun t25 => (idx (t25).Fields field_).bind fun t29 => (fref10_Field t20 (t29).Of).bind fun t32 => (if (decide (t32 < (0:Int))) = true then (some ((-1:Int),zz0)) else (idx (x_).Kinds t13).bind fun t39 => (idx (t39).Fields t32).bind fun t43 => (idx (x_).Kinds t13).bind fun t49 => (idx (t49).Fields t32).bind fun t53 => (some ((t43).Kind,t53))))
set_option maxRecDepth 100000 in
set_option maxHeartbeats 4000000 in
theorem ref10_Above_ok {x_ : Sapi_Schema} {kind_ : Int} {field_ : Int} {r : Int × Sapi_Field} (h : fref10_Above x_ kind_ field_ = some r) : FnOk Tryz.prog 132 [rSapi_Schema.ty x_,ti kind_,ti field_] [] (fun _ => []) (fun _ => ttup [ti r.1,rSapi_Field.ty r.2]) := by
 unfold fref10_Above at h
 refine FnOk.enter Tryz.func132 rfl Tryz.ntmps132 (leb rfl) (fun M0 M w0 a hpl hst => ?_)
 replace hst : St M w0 55 [(0,rSapi_Schema.ty x_),(1,ti kind_),(2,ti field_)] [] a w0 := hst
 refine sr mixed [v1 2 (fun v0 => box (rSapi_Field.cs zz0) v0)] hst (fun _ => .o (op_boxR (R := rSapi_Schema) (u := x_) z0) <| .o (op_assign .k) <| .m [] [0] rfl rfl rfl (op_alloc (R := rSapi_Field) (a := zz0) tok44 zok44) <| .n) fun n0 a w hst => ?_
 replace hst := hst.to [0,2,4,5] [_,_,_,_] [_] rfl rfl
 obtain ⟨t13,ht13,h⟩ := bind_some h
 refine sr mixed [] hst (fun _ => .o (op_load tok34 z0) <| .q 3 rfl <| .q 5 rfl <| .o (op_callF call16 (ref10_Up_ok ht13) (.cons (.of z2) <| .cons (.of z1) <| .cons (.of z0) <| .nil)) <| .o (op_assign z0) <| .n) fun n1 a w hst => ?_
 replace hst := hst.to [4,5,6,7,8] [_,_,_,_,_] [_] rfl rfl
 refine wp_seq_k (fun K4 hK4 => ?_)
 refine sr mixed [] hst (fun _ => .q 0 rfl <| .o (op_lss z0 .k) <| .n) fun n2 a w hst => ?_
 replace hst := hst.to [1,2,3,4,5,6] [_,_,_,_,_,_] [_] rfl rfl
 refine wt hst (fun b13 => ?_) (fun b13 => ?_)
 ·replace h := ite_t b13 h
  refine sr mixed [v0 (box (rSapi_Field.cs zz0) (n0 2))] hst (fun _ => .p (T := rSapi_Field.ty zz0) rfl (op_build ud44 pl44 zv44 zc44 (.nil _)) <| .o (op_assign .k) <| .e [] [0] [1] rfl rfl rfl rfl (op_storeB (R := rSapi_Field) (a := zz0) tok44 z5 z1 (leb rfl)) <| .n) fun n3 a w hst => ?_
  replace hst := hst.to [1,5] [_,_] [_] rfl rfl
  refine wp_ret ?_
  obtain rfl := sj h
  exact ret_st undef [] hpl hst rfl (.tmp z0 (.cell (R := rSapi_Field) (u := zz0) tok44 z1 0 rfl rfl .nil)) rfl rfl rfl
 ·replace h := ite_f b13 h
  refine wp_skip ?_
  refine hK4 _ _ ?_
  try clear hK4 K4
  obtain ⟨t20,ht20,h⟩ := bind_some h
  obtain ⟨t25,ht25,h⟩ := bind_some h
  obtain ⟨t29,ht29,h⟩ := bind_some h
  obtain ⟨t32,ht32,h⟩ := bind_some h
  refine sr mixed [] hst (fun _ => .o (op_field fld34_1 z2) <| .o (op_loadT (R := (rSl rSapi_Kind)) (u := (x_).Kinds) tok30 z0 rfl) <| .q 3 rfl <| .o (op_index ud30 tok47 z1 z0 ht20) <| .o (op_load tok47 z0) <| .o (op_field fld34_1 z7) <| .o (op_loadT (R := (rSl rSapi_Kind)) (u := (x_).Kinds) tok30 z0 rfl) <| .q 11 rfl <| .o (op_index ud30 tok47 z1 z0 ht25) <| .o (op_field fld47_3 z0) <| .o (op_loadT (R := (rSl rSapi_Field)) (u := (t25).Fields) tok45 z0 rfl) <| .q 16 rfl <| .o (op_index ud45 tok44 z1 z0 ht29) <| .o (op_field fld44_1 z0) <| .o (op_loadT (R := rS) (u := (t29).Of) tok9 z0 rfl) <| .o (op_callF call21 (ref10_Field_ok ht32) (.cons (.of z10) <| .cons (.of z0) <| .nil)) <| .o (op_assign z0) <| .n) fun n4 a w hst => ?_
  replace hst := hst.to [16,18,19,20] [_,_,_,_] [_] rfl rfl
  refine wp_seq_k (fun K8 hK8 => ?_)
  refine sr mixed [] hst (fun _ => .q 0 rfl <| .o (op_lss z0 .k) <| .n) fun n5 a w hst => ?_
  replace hst := hst.to [1,2,3,4,5] [_,_,_,_,_] [_] rfl rfl
  refine wt hst (fun b12 => ?_) (fun b12 => ?_)
  ·replace h := ite_t b12 h
   refine sr mixed [v0 (box (rSapi_Field.cs zz0) (n0 2))] hst (fun _ => .p (T := rSapi_Field.ty zz0) rfl (op_build ud44 pl44 zv44 zc44 (.nil _)) <| .o (op_assign .k) <| .e [] [0] [1] rfl rfl rfl rfl (op_storeB (R := rSapi_Field) (a := zz0) tok44 z6 z1 (leb rfl)) <| .n) fun n6 a w hst => ?_
   replace hst := hst.to [1,6] [_,_] [_] rfl rfl
   refine wp_ret ?_
   obtain rfl := sj h
   exact ret_st undef [] hpl hst rfl (.tmp z0 (.cell (R := rSapi_Field) (u := zz0) tok44 z1 0 rfl rfl .nil)) rfl rfl rfl
  ·replace h := ite_f b12 h
   refine wp_skip ?_
   refine hK8 _ _ ?_
   try clear hK8 K8
   obtain ⟨t39,ht39,h⟩ := bind_some h
   obtain ⟨t43,ht43,h⟩ := bind_some h
   obtain ⟨t49,ht49,h⟩ := bind_some h
   obtain ⟨t53,ht53,h⟩ := bind_some h
   refine sr mixed [v0 (box (rSapi_Field.cs t53) (n0 2))] hst (fun _ => .o (op_field fld34_1 z3) <| .o (op_loadT (R := (rSl rSapi_Kind)) (u := (x_).Kinds) tok30 z0 rfl) <| .q 4 rfl <| .o (op_index ud30 tok47 z1 z0 ht39) <| .o (op_field fld47_3 z0) <| .o (op_loadT (R := (rSl rSapi_Field)) (u := (t39).Fields) tok45 z0 rfl) <| .q 7 rfl <| .o (op_index ud45 tok44 z1 z0 ht43) <| .o (op_field fld44_3 z0) <| .o (op_loadT (R := rI) (u := (t43).Kind) tok3 z0 rfl) <| .o (op_field fld34_1 z13) <| .o (op_loadT (R := (rSl rSapi_Kind)) (u := (x_).Kinds) tok30 z0 rfl) <| .q 14 rfl <| .o (op_index ud30 tok47 z1 z0 ht49) <| .o (op_field fld47_3 z0) <| .o (op_loadT (R := (rSl rSapi_Field)) (u := (t49).Fields) tok45 z0 rfl) <| .q 17 rfl <| .o (op_index ud45 tok44 z1 z0 ht53) <| .o (op_load tok44 z0) <| .o (op_assign z9) <| .e [] [0] [1] rfl rfl rfl rfl (op_storeB (R := rSapi_Field) (a := t53) tok44 z24 z1 (leb rfl)) <| .n) fun n7 a w hst => ?_
   replace hst := hst.to [19,24] [_,_] [_] rfl rfl
   refine wp_ret ?_
   obtain rfl := sj h
   exact ret_st undef [] hpl hst rfl (.tmp z0 (.cell (R := rSapi_Field) (u := t53) tok44 z1 0 rfl rfl .nil)) rfl rfl rfl

/- diorama/dioramaref10.above -/
noncomputable def fref10_above (x_ : Sapi_Schema) (kind_ : Int) (field_ : Int) (up_ : Int) : Option (Int) := (if (decide (up_ < (0:Int))) = true then (some (12:Int)) else (fref10_Above x_ kind_ field_).bind fun t17 => (idx (x_).Kinds kind_).bind fun t23 => (idx (t23).Fields field_).bind fun t27 => (if ((t27).Kind == (7:Int)) = true then (opt ((t17.1 != (6:Int)) == false) (fref10_Kind x_ (t17.2).Of) default).bind fun t37 => (if ((t17.1 != (6:Int)) || (t37 != kind_)) = true then (some (13:Int)) else (some (0:Int))) else (if (((((decide (t17.1 < (0:Int))) || (t17.1 == (0:Int))) || (t17.1 == (1:Int))) || (t17.1 == (6:Int))) || (t17.1 == (7:Int))) = true then (some (13:Int)) else (some (0:Int)))))
set_option maxRecDepth 100000 in
set_option maxHeartbeats 4000000 in
theorem ref10_above_ok {x_ : Sapi_Schema} {kind_ : Int} {field_ : Int} {up_ : Int} {r : Int} (h : fref10_above x_ kind_ field_ up_ = some r) : FnOk Tryz.prog 94 [rSapi_Schema.ty x_,ti kind_,ti field_,ti up_] [] (fun _ => []) (fun _ => ti r) := by
 unfold fref10_above at h
 refine FnOk.enter Tryz.func94 rfl Tryz.ntmps94 (leb rfl) (fun M0 M w0 a hpl hst => ?_)
 replace hst : St M w0 59 [(0,rSapi_Schema.ty x_),(1,ti kind_),(2,ti field_),(3,ti up_)] [] a w0 := hst
 refine sr mixed [] hst (fun _ => .o (op_boxR (R := rSapi_Schema) (u := x_) z0) <| .o (op_assign .k) <| .n) fun n0 a w hst => ?_
 replace hst := hst.to [0,3,4,5] [_,_,_,_] [] rfl rfl
 refine wp_seq_k (fun K2 hK2 => ?_)
 refine sr mixed [] hst (fun _ => .q 3 rfl <| .o (op_lss z0 .k) <| .n) fun n1 a w hst => ?_
 replace hst := hst.to [1,2,3,4] [_,_,_,_] [] rfl rfl
 refine wt hst (fun b20 => ?_) (fun b20 => ?_)
 ·replace h := ite_t b20 h
  refine sr mixed [] hst (fun _ => .o (op_assign .k) <| .n) fun n2 a w hst => ?_
  replace hst := hst.to [0] [_] [] rfl rfl
  refine wp_ret ?_
  obtain rfl := sj h
  exact ret_st undef [] hpl hst rfl (.tmp z0 .nil) rfl rfl rfl
 ·replace h := ite_f b20 h
  refine wp_skip ?_
  refine hK2 _ _ ?_
  try clear hK2 K2
  obtain ⟨t17,ht17,h⟩ := bind_some h
  refine sr mixed [v1 7 (fun v0 => box (rSapi_Field.cs zz0) v0),v1 7 (fun v0 => box (rSapi_Field.cs t17.2) v0)] hst (fun _ => .o (op_load tok34 z1) <| .q 3 rfl <| .q 5 rfl <| .o (op_callF call132 (ref10_Above_ok ht17) (.cons (.of z2) <| .cons (.of z1) <| .cons (.of z0) <| .nil)) <| .q 0 rfl <| .o (op_extract z0 rfl) <| .o (op_extract z1 rfl) <| .m [] [0] rfl rfl rfl (op_alloc (R := rSapi_Field) (a := zz0) tok44 zok44) <| .o (op_assign z2) <| .e [] [0] [1] rfl rfl rfl rfl (op_storeB (R := rSapi_Field) (a := t17.2) tok44 z1 z2 (leb rfl)) <| .n) fun n3 a w hst => ?_
  replace hst : St _ _ _ [_,_,_,_,_] [] _ _ := (((hst.pick [7,8,10,11,12]).shareB 0 rfl).add 0 rfl (fun _ _ _ h => h.2)).pick [0,3,4,5,6]
  refine wp_seq_k (fun K7 hK7 => ?_)
  obtain ⟨t23,ht23,h⟩ := bind_some h
  obtain ⟨t27,ht27,h⟩ := bind_some h
  refine sr mixed [] hst (fun _ => .o (op_field fld34_1 z2) <| .o (op_loadT (R := (rSl rSapi_Kind)) (u := (x_).Kinds) tok30 z0 rfl) <| .q 5 rfl <| .o (op_index ud30 tok47 z1 z0 ht23) <| .o (op_field fld47_3 z0) <| .o (op_loadT (R := (rSl rSapi_Field)) (u := (t23).Fields) tok45 z0 rfl) <| .q 10 rfl <| .o (op_index ud45 tok44 z1 z0 ht27) <| .o (op_field fld44_3 z0) <| .o (op_loadT (R := rI) (u := (t27).Kind) tok3 z0 rfl) <| .o (op_eql z0 .k) <| .n) fun n4 a w hst => ?_
  replace hst := hst.to [10,11,12,13,14] [_,_,_,_,_] [] rfl rfl
  refine wt hst (fun b19 => ?_) (fun b19 => ?_)
  ·replace h := ite_t b19 h
   refine wp_seq_k (fun K9 hK9 => ?_)
   obtain ⟨t37,ht37,h⟩ := bind_some h
   refine sr mixed [] hst (fun _ => .q 2 rfl <| .o (op_neq z0 .k) <| .q 0 rfl <| .g rfl rfl (.b 0 rfl) (fun _ => op_load tok34 z6) <| .g rfl rfl (.b 1 rfl) (fun _ => op_field fld44_1 z5) <| .g rfl rfl (.b 2 rfl) (fun hc => op_loadT (R := rS) (u := (t17.2).Of) tok9 (.cond z0 hc) rfl) <| .g rfl rfl (.b 3 rfl) (fun hc => op_callF call19 (ref10_Kind_ok (opt_t ht37 hc)) (.cons (.of (.cond z2 hc)) <| .cons (.of (.cond z0 hc)) <| .nil)) <| .g rfl rfl (.b 4 rfl) (fun _ => op_move z11) <| .g rfl rfl (.b 5 rfl) (fun hc => op_neq (.cond z1 hc) (.cond z0 hc)) <| .o (op_or z6 (fun hp => (.cond z0 (beqF hp)))) <| .n) fun n5 a w hst => ?_
   replace hst := hst.to [9] [_] [] rfl rfl
   refine wt hst (fun b13 => ?_) (fun b13 => ?_)
   ·replace h := ite_t b13 h
    refine sr mixed [] hst (fun _ => .o (op_assign .k) <| .n) fun n6 a w hst => ?_
    replace hst := hst.to [0] [_] [] rfl rfl
    refine wp_ret ?_
    obtain rfl := sj h
    exact ret_st undef [] hpl hst rfl (.tmp z0 .nil) rfl rfl rfl
   ·replace h := ite_f b13 h
    refine wp_skip ?_
    refine hK9 _ _ ?_
    try clear hK9 K9
    refine sr mixed [] hst (fun _ => .o (op_assign .k) <| .n) fun n7 a w hst => ?_
    replace hst := hst.to [0] [_] [] rfl rfl
    refine wp_ret ?_
    obtain rfl := sj h
    exact ret_st undef [] hpl hst rfl (.tmp z0 .nil) rfl rfl rfl
  ·replace h := ite_f b19 h
   refine wp_skip ?_
   refine hK7 _ _ ?_
   try clear hK7 K7
   refine wp_seq_k (fun K14 hK14 => ?_)
   refine sr mixed [] hst (fun _ => .q 2 rfl <| .o (op_lss z0 .k) <| .q 0 rfl <| .g rfl rfl (.b 0 rfl) (fun _ => op_move z5) <| .g rfl rfl (.b 1 rfl) (fun hc => op_eql (.cond z0 hc) .k) <| .o (op_or z2 (fun hp => (.cond z0 (beqF hp)))) <| .q 0 rfl <| .g rfl rfl (.b 0 rfl) (fun _ => op_move z9) <| .g rfl rfl (.b 1 rfl) (fun hc => op_eql (.cond z0 hc) .k) <| .o (op_or z2 (fun hp => (.cond z0 (beqF hp)))) <| .q 0 rfl <| .g rfl rfl (.b 0 rfl) (fun _ => op_move z13) <| .g rfl rfl (.b 1 rfl) (fun hc => op_eql (.cond z0 hc) .k) <| .o (op_or z2 (fun hp => (.cond z0 (beqF hp)))) <| .q 0 rfl <| .g rfl rfl (.b 0 rfl) (fun _ => op_move z17) <| .g rfl rfl (.b 1 rfl) (fun hc => op_eql (.cond z0 hc) .k) <| .o (op_or z2 (fun hp => (.cond z0 (beqF hp)))) <| .n) fun n8 a w hst => ?_
   replace hst := hst.to [17] [_] [] rfl rfl
   refine wt hst (fun b18 => ?_) (fun b18 => ?_)
   ·replace h := ite_t b18 h
    refine sr mixed [] hst (fun _ => .o (op_assign .k) <| .n) fun n9 a w hst => ?_
    replace hst := hst.to [0] [_] [] rfl rfl
    refine wp_ret ?_
    obtain rfl := sj h
    exact ret_st undef [] hpl hst rfl (.tmp z0 .nil) rfl rfl rfl
   ·replace h := ite_f b18 h
    refine wp_skip ?_
    refine hK14 _ _ ?_
    try clear hK14 K14
    refine sr mixed [] hst (fun _ => .o (op_assign .k) <| .n) fun n10 a w hst => ?_
    replace hst := hst.to [0] [_] [] rfl rfl
    refine wp_ret ?_
    obtain rfl := sj h
    exact ret_st undef [] hpl hst rfl (.tmp z0 .nil) rfl rfl rfl

end Go.Proofs.YthdfmpocknmleaaGreatDoor
