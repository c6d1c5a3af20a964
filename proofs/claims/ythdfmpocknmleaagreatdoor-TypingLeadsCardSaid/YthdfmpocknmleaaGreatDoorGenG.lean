/- Go functions as Lean functions, and the proofs that they compute them, written by a program. No condition. -/
import Derived.Test.YthdfmpocknmleaaGreatDoorGenF
namespace Go.Proofs.YthdfmpocknmleaaGreatDoor
open Go.Sim

/- diorama/typing.Check -/
noncomputable def ftyping_Check (x_ : Sapi_Schema) : Option ((List Styping_Problem)) := (fschema_Valid x_).bind fun t18 => (if (t18 != (0:Int)) = true then (some [(Styping_Problem.mk (-1:Int) (-1:Int) (-1:Int) t18)]) else (tailrec (fun (s12 : Int × List Styping_Problem) => ((if (decide (s12.1 < ((x_).Lives.length : Int))) = true then (idx (x_).Lives s12.1).bind fun t31 => (sub (x_).Lives (0:Int) s12.1).bind fun t36 => (fslices_ContainsFunc_Life t36 (fun x0 => ftyping_Checkq2 x0 t31)).bind fun t38 => (ftyping_first [(Styping_fault.mk t38 (7:Int))]).bind fun t44 => (ftyping_Checkq1 (-1:Int) s12.1 (-1:Int) t44 s12.2).bind fun t45 => (some (.inl ((IntKind.i64.wrap (s12.1 + (1:Int))),t45))) else (some (.inr s12.2))) : Option ((Int × List Styping_Problem) ⊕ ((List Styping_Problem))))) ((0:Int),([] : List Styping_Problem))).bind fun (p29 : (List Styping_Problem)) => (tailrec (fun (s33 : Int × List Styping_Problem) => ((if (decide (s33.1 < ((x_).Kinds.length : Int))) = true then (idx (x_).Kinds s33.1).bind fun t53 => (ftyping_kind x_ s33.1).bind fun t59 => (ftyping_Checkq1 s33.1 (-1:Int) (-1:Int) t59 s33.2).bind fun t60 => (tailrec (fun (s182 : Int × List Styping_Problem) => ((if (decide (s182.1 < ((t53).Fields.length : Int))) = true then (idx (t53).Fields s182.1).bind fun t67 => (ftyping_Field t53 (t67).Name).bind fun t72 => (ftyping_first [(Styping_fault.mk (decide (t72 < s182.1)) (7:Int))]).bind fun t77 => ((if ((fChecks (t67).Kind).isSome && (t77 == (0:Int))) = true then (callO ((SX_check.mk (fChecks (t67).Kind))).check (Styping_spot.mk x_ s33.1 s182.1 t67)).bind fun t97 => (some t97) else (some t77))).bind fun (p226 : Int) => (ftyping_Checkq1 s33.1 s182.1 (-1:Int) p226 s182.2).bind fun t102 => (some (.inl ((IntKind.i64.wrap (s182.1 + (1:Int))),t102))) else (some (.inr s182.2))) : Option ((Int × List Styping_Problem) ⊕ ((List Styping_Problem))))) ((0:Int),t60)).bind fun (p213 : (List Styping_Problem)) => (some (.inl ((IntKind.i64.wrap (s33.1 + (1:Int))),p213))) else (some (.inr s33.2))) : Option ((Int × List Styping_Problem) ⊕ ((List Styping_Problem))))) ((0:Int),p29)).bind fun (p148 : (List Styping_Problem)) => (tailrec (fun (s152 : Int × List Styping_Problem) => ((if (decide (s152.1 < ((x_).Rules.length : Int))) = true then (ftyping_rule x_ s152.1).bind fun t115 => (ftyping_Checkq1 (-1:Int) (-1:Int) s152.1 t115 s152.2).bind fun t116 => (some (.inl ((IntKind.i64.wrap (s152.1 + (1:Int))),t116))) else (some (.inr s152.2))) : Option ((Int × List Styping_Problem) ⊕ ((List Styping_Problem))))) ((0:Int),p148)).bind fun (p165 : (List Styping_Problem)) => (some p165))
set_option maxRecDepth 100000 in
set_option maxHeartbeats 4000000 in
theorem typing_Check_ok {x_ : Sapi_Schema} {r : (List Styping_Problem)} (h : ftyping_Check x_ = some r) : FnOk Tryz.prog 10 [rSapi_Schema.ty x_] [glo] (fun _ => []) (fun _ => tsl rStyping_Problem r) := by
 unfold ftyping_Check at h
 refine FnOk.enter Tryz.func10 rfl Tryz.ntmps10 (leb rfl) (fun M0 M w0 a hpl hst => ?_)
 replace hst : St M w0 119 [(0,rSapi_Schema.ty x_)] [glo] a w0 := hst
 refine wp_seq_k (fun K1 hK1 => ?_)
 refine wp_reg mixed [] hst (fun _ => .p rfl (op_boxR (R := rSapi_Schema) (u := x_) (.t 0 rfl)) <| .p rfl (op_assign (.nilsl (R := rStyping_Problem))) <| .nil _ _) (by kernel_rfl) (fun n0 a w hst => ?_)
 replace hst : St M w0 119 [(1,tptr (rSapi_Schema.cs x_))] [glo] a w := (hst.pick [0])
 refine hK1 _ _ ?_
 try clear hK1 K1
 refine wp_seq_k (fun K2 hK2 => ?_)
 refine wp_seq_k (fun K3 hK3 => ?_)
 obtain ⟨t18,ht18,h⟩ := bind_some h
 refine wp_reg mixed [] hst (fun _ => .p rfl (op_load tok34 (.t 0 rfl)) <| .u [0] rfl rfl ((op_callF call28 (schema_Valid_ok ht18) (.cons (.of (.t 0 rfl)) <| .nil)).glo) <| .p rfl (op_assign (.t 0 rfl)) <| .nil _ _) (by kernel_rfl) (fun n1 a w hst => ?_)
 replace hst : St M w0 119 [(3,ti t18),(1,tptr (rSapi_Schema.cs x_))] [glo] a w := (hst.pick [2,3])
 refine hK3 _ _ ?_
 try clear hK3 K3
 refine wp_seq_k (fun K4 hK4 => ?_)
 refine wp_reg mixed [] hst (fun _ => .q 0 rfl <| .p rfl (op_neq (.t 0 rfl) .k) <| .nil _ _) (by kernel_rfl) (fun n2 a w hst => ?_)
 replace hst : St M w0 119 [(20,tb (t18 != (0:Int))),(3,ti t18),(1,tptr (rSapi_Schema.cs x_))] [glo] a w := (hst.pick [1,2,3])
 refine hK4 _ _ ?_
 try clear hK4 K4
 refine wp_test 0 hst rfl (fun b239 => ?_) (fun b239 => ?_)
 ·replace h := ite_t b239 h
  refine wp_seq_k (fun K5 hK5 => ?_)
  refine wp_reg mixed [] hst (fun _ => .q 1 rfl <| .p (T := rStyping_Problem.ty (Styping_Problem.mk (-1:Int) (-1:Int) (-1:Int) t18)) rfl (op_build Tryz.underlying63 pl63 zv63 zc63 (.cons (R := rI) (u := (-1:Int)) rfl .k (leb rfl) <| .cons (R := rI) (u := (-1:Int)) rfl .k (leb rfl) <| .cons (R := rI) (u := (-1:Int)) rfl .k (leb rfl) <| .cons (R := rI) (u := t18) rfl (.t 0 rfl) (leb rfl) <| .nil _)) <| .p rfl (op_buildSl (R := rStyping_Problem) (us := [(Styping_Problem.mk (-1:Int) (-1:Int) (-1:Int) t18)]) Tryz.underlying28 tok63 (.cons (.t 0 rfl) <| .nil _) rfl (leb rfl)) <| .p rfl (op_assign (.t 0 rfl)) <| .nil _ _) (by kernel_rfl) (fun n3 a w hst => ?_)
  replace hst : St M w0 119 [(2,tsl rStyping_Problem [(Styping_Problem.mk (-1:Int) (-1:Int) (-1:Int) t18)])] [glo] a w := (hst.pick [3])
  refine hK5 _ _ ?_
  try clear hK5 K5
  refine wp_ret ?_
  obtain rfl := sj h
  exact ret_st undef [] hpl hst rfl (.tmp (.t 0 rfl) .nil) rfl rfl rfl
 ·replace h := ite_f b239 h
  refine wp_skip ?_
  refine hK2 _ _ ?_
  try clear hK2 K2
  refine wp_seq_k (fun K6 hK6 => ?_)
  refine wp_reg mixed [v1 0 (fun v0 => box (rVal.cs nilV) v0)] hst (fun _ => .m [] [1] rfl rfl rfl (op_allocV tokV28) <| .nil _ _) (by kernel_rfl) (fun n4 a w hst => ?_)
  replace hst : St M w0 119 [(4,tv (n4 0)),(1,tptr (rSapi_Schema.cs x_))] [own rStyping_Problem 63 ([] : List Styping_Problem) nilV,glo,box (rVal.cs nilV) (n4 0)] a w := ((hst.pick [0,3]).nil (rStyping_Problem) 63)
  refine hK6 _ _ ?_
  try clear hK6 K6
  refine wp_seq_k (fun K9 hK9 => ?_)
  refine wp_reg mixed [] hst (fun _ => .p rfl (op_clo (.cons (.t 0 rfl) <| .nil)) <| .p rfl (op_assign (.t 0 rfl)) <| .nil _ _) (by kernel_rfl) (fun n5 a w hst => ?_)
  replace hst : St M w0 119 [(5,tcloE 32 [tv (n4 0)]),(4,tv (n4 0)),(1,tptr (rSapi_Schema.cs x_))] [own rStyping_Problem 63 ([] : List Styping_Problem) nilV,glo,box (rVal.cs nilV) (n4 0)] a w := (hst.pick [1,2,3])
  refine hK9 _ _ ?_
  try clear hK9 K9
  refine wp_seq_k (fun K10 hK10 => ?_)
  refine wp_seq_k (fun K11 hK11 => ?_)
  refine wp_reg mixed [] hst (fun _ => .p rfl (op_field fld34_2 (.t 2 rfl)) <| .p rfl (op_loadT (R := (rSl rSapi_Life)) (u := (x_).Lives) tok31 (.t 0 rfl) rfl) <| .p rfl (op_len Tryz.underlying31 (.t 0 rfl)) <| .p rfl (op_move .k) <| .nil _ _) (by kernel_rfl) (fun n6 a w hst => ?_)
  replace hst : St M w0 119 [(26,tsl rSapi_Life (x_).Lives),(27,ti ((x_).Lives.length : Int)),(28,ti (0:Int)),(5,tcloE 32 [tv (n4 0)]),(4,tv (n4 0)),(1,tptr (rSapi_Schema.cs x_))] [own rStyping_Problem 63 ([] : List Styping_Problem) nilV,glo,box (rVal.cs nilV) (n4 0)] a w := (hst.pick [1,2,3,4,5,6])
  refine hK11 _ _ ?_
  try clear hK11 K11
  obtain ⟨e13,he13,h⟩ := bind_some h
  have hJp29 : ∀ (p29 : List Styping_Problem) (v30 : Value) a w,p29 = e13 → St M w0 119 [(5,tcloE 32 [tv (n4 0)]),(4,tv (n4 0)),(1,tptr (rSapi_Schema.cs x_))] [own rStyping_Problem 63 p29 v30,glo,box (rVal.cs v30) (n4 0)] a w → K10 a w := by
   intro p29 v30 a w he hst
   subst he
   refine hK10 _ _ ?_
   try clear hK10 K10
   refine wp_seq_k (fun K31 hK31 => ?_)
   refine wp_seq_k (fun K32 hK32 => ?_)
   refine wp_reg mixed [] hst (fun _ => .p rfl (op_field fld34_1 (.t 2 rfl)) <| .p rfl (op_loadT (R := (rSl rSapi_Kind)) (u := (x_).Kinds) tok30 (.t 0 rfl) rfl) <| .p rfl (op_len Tryz.underlying30 (.t 0 rfl)) <| .p rfl (op_move .k) <| .nil _ _) (by kernel_rfl) (fun n12 a w hst => ?_)
   replace hst : St M w0 119 [(48,tsl rSapi_Kind (x_).Kinds),(49,ti ((x_).Kinds.length : Int)),(50,ti (0:Int)),(5,tcloE 32 [tv (n4 0)]),(4,tv (n4 0)),(1,tptr (rSapi_Schema.cs x_))] [own rStyping_Problem 63 p29 v30,glo,box (rVal.cs v30) (n4 0)] a w := (hst.pick [1,2,3,4,5,6])
   refine hK32 _ _ ?_
   try clear hK32 K32
   obtain ⟨e34,he34,h⟩ := bind_some h
   have hJp148 : ∀ (p148 : List Styping_Problem) (v149 : Value) a w,p148 = e34 → St M w0 119 [(5,tcloE 32 [tv (n4 0)]),(4,tv (n4 0)),(1,tptr (rSapi_Schema.cs x_))] [own rStyping_Problem 63 p148 v149,glo,box (rVal.cs v149) (n4 0)] a w → K31 a w := by
    intro p148 v149 a w he hst
    subst he
    refine hK31 _ _ ?_
    try clear hK31 K31
    refine wp_seq_k (fun K150 hK150 => ?_)
    refine wp_seq_k (fun K151 hK151 => ?_)
    refine wp_reg mixed [] hst (fun _ => .p rfl (op_field fld34_3 (.t 2 rfl)) <| .p rfl (op_loadT (R := (rSl rSapi_Rule)) (u := (x_).Rules) tok32 (.t 0 rfl) rfl) <| .p rfl (op_len Tryz.underlying32 (.t 0 rfl)) <| .p rfl (op_move .k) <| .nil _ _) (by kernel_rfl) (fun n26 a w hst => ?_)
    replace hst : St M w0 119 [(107,ti ((x_).Rules.length : Int)),(108,ti (0:Int)),(5,tcloE 32 [tv (n4 0)]),(4,tv (n4 0)),(1,tptr (rSapi_Schema.cs x_))] [own rStyping_Problem 63 p148 v149,glo,box (rVal.cs v149) (n4 0)] a w := (hst.pick [2,3,4,5,6])
    refine hK151 _ _ ?_
    try clear hK151 K151
    obtain ⟨e153,he153,h⟩ := bind_some h
    have hJp165 : ∀ (p165 : List Styping_Problem) (v166 : Value) a w,p165 = e153 → St M w0 119 [(4,tv (n4 0))] [own rStyping_Problem 63 p165 v166,glo,box (rVal.cs v166) (n4 0)] a w → K150 a w := by
     intro p165 v166 a w he hst
     subst he
     refine hK150 _ _ ?_
     try clear hK150 K150
     refine wp_seq_k (fun K167 hK167 => ?_)
     refine wp_reg mixed [] hst (fun _ => .u [2] rfl rfl (op_loadBV tokV28 (.t 0 rfl)) <| .p rfl (op_assign (.t 0 rfl)) <| .nil _ _) (by kernel_rfl) (fun n31 a w hst => ?_)
     replace hst : St M w0 119 [(118,tv v166),(2,tv v166)] [own rStyping_Problem 63 p165 v166,glo] a w := ((hst.pick [0,1]).selA [0,1] rfl)
     refine hK167 _ _ ?_
     try clear hK167 K167
     refine wp_ret ?_
     replace hst : St M w0 119 [(2,tsl rStyping_Problem p165)] [glo] a w := ((hst.shareO 1 rfl).pick [0])
     obtain rfl := sj h
     exact ret_st undef [] hpl hst rfl (.tmp (.t 0 rfl) .nil) rfl rfl rfl
    refine wp_block ?_
    refine wp_loopK _ (fun (s152 : Int × List Styping_Problem) a w => ∃ v159 : Value,St M w0 119 [(107,ti ((x_).Rules.length : Int)),(108,ti s152.1),(5,tcloE 32 [tv (n4 0)]),(4,tv (n4 0)),(1,tptr (rSapi_Schema.cs x_))] [own rStyping_Problem 63 s152.2 v159,glo,box (rVal.cs v159) (n4 0)] a w) _ _ he153 ⟨v149,hst.pick [0,1,2,3,4]⟩ ?_
    clear h
    intro s152 o a w K168 hI h ho hK168
    obtain ⟨v159,hst⟩ := hI
    refine wp_seq_k (fun K169 hK169 => ?_)
    refine wp_reg mixed [] hst (fun _ => .p rfl (op_lss (.t 1 rfl) (.t 0 rfl)) <| .nil _ _) (by kernel_rfl) (fun n27 a w hst => ?_)
    replace hst : St M w0 119 [(109,tb (decide (s152.1 < ((x_).Rules.length : Int)))),(107,ti ((x_).Rules.length : Int)),(108,ti s152.1),(5,tcloE 32 [tv (n4 0)]),(4,tv (n4 0)),(1,tptr (rSapi_Schema.cs x_))] [own rStyping_Problem 63 s152.2 v159,glo,box (rVal.cs v159) (n4 0)] a w := (hst.pick [0,1,2,3,4,5])
    refine hK169 _ _ ?_
    try clear hK169 K169
    refine wp_seq_k (fun K170 hK170 => ?_)
    refine wp_test 0 hst rfl (fun b173 => ?_) (fun b173 => ?_)
    ·replace h := ite_t b173 h
     refine wp_skip ?_
     refine hK170 _ _ ?_
     try clear hK170 K170
     refine wp_seq_k (fun K171 hK171 => ?_)
     refine wp_block ?_
     refine wp_seq_k (fun K172 hK172 => ?_)
     refine wp_reg mixed [] hst (fun _ => .q 2 rfl <| .p rfl (op_assign (.t 0 rfl)) <| .nil _ _) (by kernel_rfl) (fun n28 a w hst => ?_)
     replace hst : St M w0 119 [(16,ti s152.1),(107,ti ((x_).Rules.length : Int)),(108,ti s152.1),(5,tcloE 32 [tv (n4 0)]),(4,tv (n4 0)),(1,tptr (rSapi_Schema.cs x_))] [own rStyping_Problem 63 s152.2 v159,glo,box (rVal.cs v159) (n4 0)] a w := (hst.pick [1,3,4,5,6,7])
     refine hK172 _ _ ?_
     try clear hK172 K172
     obtain ⟨t115,ht115,h⟩ := bind_some h
     obtain ⟨t116,ht116,h⟩ := bind_some h
     refine wp_reg mixed [v1 5 (fun v0 => box (rVal.cs v0) (n4 0)),v1 5 (fun v0 => own rStyping_Problem 63 t116 v0)] hst (fun _ => .q 3 rfl <| .q 1 rfl <| .p rfl (op_load tok34 (.t 7 rfl)) <| .q 3 rfl <| .p rfl (op_callF call37 (typing_rule_ok ht115) (.cons (.of (.t 1 rfl)) <| .cons (.of (.t 0 rfl)) <| .nil)) <| .e [] [2,0] [3,4] rfl rfl rfl rfl (op_callC call32 (typing_Checkq1_ok ht116) (.t 4 rfl) (.cons (.of .k) <| .cons (.of .k) <| .cons (.of (.t 3 rfl)) <| .cons (.of (.t 0 rfl)) <| .nil)) <| .nil _ _) (by kernel_rfl) (fun n29 a w hst => ?_)
     replace hst : St M w0 119 [(107,ti ((x_).Rules.length : Int)),(108,ti s152.1),(5,tcloE 32 [tv (n4 0)]),(4,tv (n4 0)),(1,tptr (rSapi_Schema.cs x_))] [glo,box (rVal.cs (n29 5)) (n4 0),own rStyping_Problem 63 t116 (n29 5)] a w := (hst.pick [7,8,9,10,11])
     refine hK171 _ _ ?_
     try clear hK171 K171
     refine wp_reg mixed [] hst (fun _ => .p rfl (op_add (.t 1 rfl) .k) <| .q 0 rfl <| .nil _ _) (by kernel_rfl) (fun n30 a w hst => ?_)
     replace hst : St M w0 119 [(108,ti (IntKind.i64.wrap (s152.1 + (1:Int)))),(107,ti ((x_).Rules.length : Int)),(5,tcloE 32 [tv (n4 0)]),(4,tv (n4 0)),(1,tptr (rSapi_Schema.cs x_))] [glo,box (rVal.cs (n29 5)) (n4 0),own rStyping_Problem 63 t116 (n29 5)] a w := (hst.pick [1,2,3,4,5])
     exact hK168 _ _ _ (sj h).symm ⟨(n29 5),(hst.pick [1,0,2,3,4]).selA [2,0,1] rfl⟩
    ·replace h := ite_f b173 h
     refine wp_exit ?_
     exact hJp165 _ v159 _ _ (ho _ (sj h).symm) (hst.pick [4])
   refine wp_block ?_
   refine wp_loopK _ (fun (s33 : Int × List Styping_Problem) a w => ∃ v91 : Value,St M w0 119 [(48,tsl rSapi_Kind (x_).Kinds),(49,ti ((x_).Kinds.length : Int)),(50,ti s33.1),(5,tcloE 32 [tv (n4 0)]),(4,tv (n4 0)),(1,tptr (rSapi_Schema.cs x_))] [own rStyping_Problem 63 s33.2 v91,glo,box (rVal.cs v91) (n4 0)] a w) _ _ he34 ⟨v30,hst.pick [0,1,2,3,4,5]⟩ ?_
   clear h
   intro s33 o a w K174 hI h ho hK174
   obtain ⟨v91,hst⟩ := hI
   refine wp_seq_k (fun K175 hK175 => ?_)
   refine wp_reg mixed [] hst (fun _ => .p rfl (op_lss (.t 2 rfl) (.t 1 rfl)) <| .nil _ _) (by kernel_rfl) (fun n13 a w hst => ?_)
   replace hst : St M w0 119 [(51,tb (decide (s33.1 < ((x_).Kinds.length : Int)))),(48,tsl rSapi_Kind (x_).Kinds),(49,ti ((x_).Kinds.length : Int)),(50,ti s33.1),(5,tcloE 32 [tv (n4 0)]),(4,tv (n4 0)),(1,tptr (rSapi_Schema.cs x_))] [own rStyping_Problem 63 s33.2 v91,glo,box (rVal.cs v91) (n4 0)] a w := (hst.pick [0,1,2,3,4,5,6])
   refine hK175 _ _ ?_
   try clear hK175 K175
   refine wp_seq_k (fun K176 hK176 => ?_)
   refine wp_test 0 hst rfl (fun b230 => ?_) (fun b230 => ?_)
   ·replace h := ite_t b230 h
    refine wp_skip ?_
    refine hK176 _ _ ?_
    try clear hK176 K176
    refine wp_seq_k (fun K177 hK177 => ?_)
    refine wp_block ?_
    refine wp_seq_k (fun K178 hK178 => ?_)
    obtain ⟨t53,ht53,h⟩ := bind_some h
    refine wp_reg mixed [v1 3 (fun v0 => box (rSapi_Kind.cs (Sapi_Kind.mk ([] : Str) (0:Int) (0:Int) ([] : (List Sapi_Field)))) v0),v1 3 (fun v0 => box (rSapi_Kind.cs t53) v0)] hst (fun _ => .q 3 rfl <| .p rfl (op_index Tryz.underlying30 tok47 (.t 2 rfl) (.t 4 rfl) ht53) <| .p rfl (op_load tok47 (.t 0 rfl)) <| .m [] [3] rfl rfl rfl (op_alloc (R := rSapi_Kind) (a := (Sapi_Kind.mk ([] : Str) (0:Int) (0:Int) ([] : (List Sapi_Field)))) tok47 zok47) <| .p rfl (op_assign (.t 3 rfl)) <| .e [] [3] [4] rfl rfl rfl rfl (op_storeB (R := rSapi_Kind) (a := t53) tok47 (.t 1 rfl) (.t 2 rfl) (leb rfl)) <| .nil _ _) (by kernel_rfl) (fun n14 a w hst => ?_)
    replace hst : St M w0 119 [(10,tptr (rSapi_Kind.cs t53)),(9,ti s33.1),(48,tsl rSapi_Kind (x_).Kinds),(49,ti ((x_).Kinds.length : Int)),(50,ti s33.1),(5,tcloE 32 [tv (n4 0)]),(4,tv (n4 0)),(1,tptr (rSapi_Schema.cs x_))] [own rStyping_Problem 63 s33.2 v91,glo,box (rVal.cs v91) (n4 0)] a w := (((((hst.pick [3,4,6,7,8,9,10,11]).selA [3,0,1,2] rfl).shareB 0 rfl).add 0 rfl (fun _ _ _ h => h.2)).pick [0,3,4,5,6,7,8,9])
    refine hK178 _ _ ?_
    try clear hK178 K178
    refine wp_seq_k (fun K180 hK180 => ?_)
    obtain ⟨t59,ht59,h⟩ := bind_some h
    obtain ⟨t60,ht60,h⟩ := bind_some h
    refine wp_reg mixed [v1 5 (fun v0 => box (rVal.cs v0) (n4 0)),v1 5 (fun v0 => own rStyping_Problem 63 t60 v0)] hst (fun _ => .q 5 rfl <| .q 2 rfl <| .p rfl (op_load tok34 (.t 9 rfl)) <| .q 4 rfl <| .p rfl (op_callF call36 (typing_kind_ok ht59) (.cons (.of (.t 1 rfl)) <| .cons (.of (.t 0 rfl)) <| .nil)) <| .e [] [2,0] [3,4] rfl rfl rfl rfl (op_callC call32 (typing_Checkq1_ok ht60) (.t 4 rfl) (.cons (.of (.t 3 rfl)) <| .cons (.of .k) <| .cons (.of .k) <| .cons (.of (.t 0 rfl)) <| .nil)) <| .nil _ _) (by kernel_rfl) (fun n15 a w hst => ?_)
    replace hst : St M w0 119 [(10,tptr (rSapi_Kind.cs t53)),(9,ti s33.1),(48,tsl rSapi_Kind (x_).Kinds),(49,ti ((x_).Kinds.length : Int)),(50,ti s33.1),(5,tcloE 32 [tv (n4 0)]),(4,tv (n4 0)),(1,tptr (rSapi_Schema.cs x_))] [glo,box (rVal.cs (n15 5)) (n4 0),own rStyping_Problem 63 t60 (n15 5)] a w := (hst.pick [6,7,8,9,10,11,12,13])
    refine hK180 _ _ ?_
    try clear hK180 K180
    refine wp_seq_k (fun K181 hK181 => ?_)
    refine wp_reg mixed [] hst (fun _ => .p rfl (op_field fld47_3 (.t 0 rfl)) <| .p rfl (op_loadT (R := (rSl rSapi_Field)) (u := (t53).Fields) tok45 (.t 0 rfl) rfl) <| .p rfl (op_len Tryz.underlying45 (.t 0 rfl)) <| .p rfl (op_move .k) <| .nil _ _) (by kernel_rfl) (fun n16 a w hst => ?_)
    replace hst : St M w0 119 [(62,tsl rSapi_Field (t53).Fields),(63,ti ((t53).Fields.length : Int)),(64,ti (0:Int)),(10,tptr (rSapi_Kind.cs t53)),(9,ti s33.1),(48,tsl rSapi_Kind (x_).Kinds),(49,ti ((x_).Kinds.length : Int)),(50,ti s33.1),(5,tcloE 32 [tv (n4 0)]),(4,tv (n4 0)),(1,tptr (rSapi_Schema.cs x_))] [glo,box (rVal.cs (n15 5)) (n4 0),own rStyping_Problem 63 t60 (n15 5)] a w := (hst.pick [1,2,3,4,5,6,7,8,9,10,11])
    refine hK181 _ _ ?_
    try clear hK181 K181
    obtain ⟨e183,he183,h⟩ := bind_some h
    have hJp213 : ∀ (p213 : List Styping_Problem) (v214 : Value) a w,p213 = e183 → St M w0 119 [(48,tsl rSapi_Kind (x_).Kinds),(49,ti ((x_).Kinds.length : Int)),(50,ti s33.1),(5,tcloE 32 [tv (n4 0)]),(4,tv (n4 0)),(1,tptr (rSapi_Schema.cs x_))] [glo,box (rVal.cs v214) (n4 0),own rStyping_Problem 63 p213 v214] a w → K177 a w := by
     intro p213 v214 a w he hst
     subst he
     refine hK177 _ _ ?_
     try clear hK177 K177
     refine wp_reg mixed [] hst (fun _ => .p rfl (op_add (.t 2 rfl) .k) <| .q 0 rfl <| .nil _ _) (by kernel_rfl) (fun n25 a w hst => ?_)
     replace hst : St M w0 119 [(50,ti (IntKind.i64.wrap (s33.1 + (1:Int)))),(48,tsl rSapi_Kind (x_).Kinds),(49,ti ((x_).Kinds.length : Int)),(5,tcloE 32 [tv (n4 0)]),(4,tv (n4 0)),(1,tptr (rSapi_Schema.cs x_))] [glo,box (rVal.cs v214) (n4 0),own rStyping_Problem 63 p213 v214] a w := (hst.pick [1,2,3,4,5,6])
     exact hK174 _ _ _ (sj h).symm ⟨v214,(hst.pick [1,2,0,3,4,5]).selA [2,0,1] rfl⟩
    refine wp_block ?_
    refine wp_loopK _ (fun (s182 : Int × List Styping_Problem) a w => ∃ v198 : Value,St M w0 119 [(62,tsl rSapi_Field (t53).Fields),(63,ti ((t53).Fields.length : Int)),(64,ti s182.1),(10,tptr (rSapi_Kind.cs t53)),(9,ti s33.1),(48,tsl rSapi_Kind (x_).Kinds),(49,ti ((x_).Kinds.length : Int)),(50,ti s33.1),(5,tcloE 32 [tv (n4 0)]),(4,tv (n4 0)),(1,tptr (rSapi_Schema.cs x_))] [glo,box (rVal.cs v198) (n4 0),own rStyping_Problem 63 s182.2 v198] a w) _ _ he183 ⟨(n15 5),hst.pick [0,1,2,3,4,5,6,7,8,9,10]⟩ ?_
    clear h
    intro s182 o a w K215 hI h ho hK215
    obtain ⟨v198,hst⟩ := hI
    refine wp_seq_k (fun K216 hK216 => ?_)
    refine wp_reg mixed [] hst (fun _ => .p rfl (op_lss (.t 2 rfl) (.t 1 rfl)) <| .nil _ _) (by kernel_rfl) (fun n17 a w hst => ?_)
    replace hst : St M w0 119 [(65,tb (decide (s182.1 < ((t53).Fields.length : Int)))),(62,tsl rSapi_Field (t53).Fields),(63,ti ((t53).Fields.length : Int)),(64,ti s182.1),(10,tptr (rSapi_Kind.cs t53)),(9,ti s33.1),(48,tsl rSapi_Kind (x_).Kinds),(49,ti ((x_).Kinds.length : Int)),(50,ti s33.1),(5,tcloE 32 [tv (n4 0)]),(4,tv (n4 0)),(1,tptr (rSapi_Schema.cs x_))] [glo,box (rVal.cs v198) (n4 0),own rStyping_Problem 63 s182.2 v198] a w := (hst.pick [0,1,2,3,4,5,6,7,8,9,10,11])
    refine hK216 _ _ ?_
    try clear hK216 K216
    refine wp_seq_k (fun K217 hK217 => ?_)
    refine wp_test 0 hst rfl (fun b229 => ?_) (fun b229 => ?_)
    ·replace h := ite_t b229 h
     refine wp_skip ?_
     refine hK217 _ _ ?_
     try clear hK217 K217
     refine wp_seq_k (fun K218 hK218 => ?_)
     refine wp_block ?_
     refine wp_seq_k (fun K219 hK219 => ?_)
     obtain ⟨t67,ht67,h⟩ := bind_some h
     refine wp_reg mixed [v1 3 (fun v0 => box (rSapi_Field.cs (Sapi_Field.mk ([] : Str) ([] : Str) ([] : Str) (0:Int) (0:Int) (0:Int) ([] : (List Str)) ([] : (List Int)))) v0),v1 3 (fun v0 => box (rSapi_Field.cs t67) v0)] hst (fun _ => .q 3 rfl <| .p rfl (op_index Tryz.underlying45 tok44 (.t 2 rfl) (.t 4 rfl) ht67) <| .p rfl (op_load tok44 (.t 0 rfl)) <| .m [] [3] rfl rfl rfl (op_alloc (R := rSapi_Field) (a := (Sapi_Field.mk ([] : Str) ([] : Str) ([] : Str) (0:Int) (0:Int) (0:Int) ([] : (List Str)) ([] : (List Int)))) tok44 zok44) <| .p rfl (op_assign (.t 3 rfl)) <| .e [] [3] [4] rfl rfl rfl rfl (op_storeB (R := rSapi_Field) (a := t67) tok44 (.t 1 rfl) (.t 2 rfl) (leb rfl)) <| .nil _ _) (by kernel_rfl) (fun n18 a w hst => ?_)
     replace hst : St M w0 119 [(12,tptr (rSapi_Field.cs t67)),(11,ti s182.1),(62,tsl rSapi_Field (t53).Fields),(63,ti ((t53).Fields.length : Int)),(64,ti s182.1),(10,tptr (rSapi_Kind.cs t53)),(9,ti s33.1),(48,tsl rSapi_Kind (x_).Kinds),(49,ti ((x_).Kinds.length : Int)),(50,ti s33.1),(5,tcloE 32 [tv (n4 0)]),(4,tv (n4 0)),(1,tptr (rSapi_Schema.cs x_))] [glo,box (rVal.cs v198) (n4 0),own rStyping_Problem 63 s182.2 v198] a w := (((((hst.pick [3,4,6,7,8,9,10,11,12,13,14,15,16]).selA [3,0,1,2] rfl).shareB 0 rfl).add 0 rfl (fun _ _ _ h => h.2)).pick [0,3,4,5,6,7,8,9,10,11,12,13,14])
     refine hK219 _ _ ?_
     try clear hK219 K219
     refine wp_seq_k (fun K221 hK221 => ?_)
     obtain ⟨t72,ht72,h⟩ := bind_some h
     obtain ⟨t77,ht77,h⟩ := bind_some h
     refine wp_reg mixed [] hst (fun _ => .p rfl (op_load tok47 (.t 5 rfl)) <| .p rfl (op_field fld44_0 (.t 1 rfl)) <| .p rfl (op_loadT (R := rS) (u := (t67).Name) tok9 (.t 0 rfl) rfl) <| .p rfl (op_callF call20 (typing_Field_ok ht72) (.cons (.of (.t 2 rfl)) <| .cons (.of (.t 0 rfl)) <| .nil)) <| .q 5 rfl <| .p rfl (op_lss (.t 1 rfl) (.t 0 rfl)) <| .p (T := rStyping_fault.ty (Styping_fault.mk (decide (t72 < s182.1)) (7:Int))) rfl (op_build Tryz.underlying72 pl72 zv72 zc72 (.cons (R := rBool) (u := (decide (t72 < s182.1))) rfl (.t 0 rfl) (leb rfl) <| .cons (R := rI) (u := (7:Int)) rfl .k (leb rfl) <| .nil _)) <| .p rfl (op_buildSl (R := rStyping_fault) (us := [(Styping_fault.mk (decide (t72 < s182.1)) (7:Int))]) Tryz.underlying135 tok72 (.cons (.t 0 rfl) <| .nil _) rfl (leb rfl)) <| .p rfl (op_callF call35 (typing_first_ok ht77) (.cons (.of (.t 0 rfl)) <| .nil)) <| .p rfl (op_assign (.t 0 rfl)) <| .nil _ _) (by kernel_rfl) (fun n19 a w hst => ?_)
     replace hst : St M w0 119 [(13,ti t77),(12,tptr (rSapi_Field.cs t67)),(11,ti s182.1),(62,tsl rSapi_Field (t53).Fields),(63,ti ((t53).Fields.length : Int)),(64,ti s182.1),(10,tptr (rSapi_Kind.cs t53)),(9,ti s33.1),(48,tsl rSapi_Kind (x_).Kinds),(49,ti ((x_).Kinds.length : Int)),(50,ti s33.1),(5,tcloE 32 [tv (n4 0)]),(4,tv (n4 0)),(1,tptr (rSapi_Schema.cs x_))] [glo,box (rVal.cs v198) (n4 0),own rStyping_Problem 63 s182.2 v198] a w := (hst.pick [9,10,11,12,13,14,15,16,17,18,19,20,21,22])
     refine hK221 _ _ ?_
     try clear hK221 K221
     refine wp_seq_k (fun K222 hK222 => ?_)
     refine wp_seq_k (fun K223 hK223 => ?_)
     refine wp_reg mixed [v1 7 (fun v0 => box (rSX_check.cs (SX_check.mk none)) v0),v1 7 (fun v0 => box (rSX_check.cs (SX_check.mk (fChecks (t67).Kind))) v0)] hst (fun _ => .u [0] rfl rfl (op_loadG (R := rMapC ents0) (u := ()) glo_has0 tokM0 rfl) <| .p rfl (op_field fld44_3 (.t 2 rfl)) <| .p rfl (op_loadT (R := rI) (u := (t67).Kind) tok3 (.t 0 rfl) rfl) <| .p rfl (op_lookG0 (.t 2 rfl) (.t 0 rfl)) <| .q 0 rfl <| .p rfl (op_extract (.t 0 rfl) rfl) <| .p rfl (op_extract (.t 1 rfl) rfl) <| .m [] [3] rfl rfl rfl (op_alloc (R := rSX_check) (a := (SX_check.mk none)) tok75 zok75) <| .e [] [3] [4] rfl rfl rfl rfl (op_storeB (R := rSX_check) (a := (SX_check.mk (fChecks (t67).Kind))) tok75 (.t 0 rfl) (.t 2 rfl) (leb rfl)) <| .p rfl (op_assign (.t 1 rfl)) <| .nil _ _) (by kernel_rfl) (fun n20 a w hst => ?_)
     replace hst : St M w0 119 [(14,tptr (rSX_check.cs (SX_check.mk (fChecks (t67).Kind)))),(15,tb (fChecks (t67).Kind).isSome),(13,ti t77),(12,tptr (rSapi_Field.cs t67)),(11,ti s182.1),(62,tsl rSapi_Field (t53).Fields),(63,ti ((t53).Fields.length : Int)),(64,ti s182.1),(10,tptr (rSapi_Kind.cs t53)),(9,ti s33.1),(48,tsl rSapi_Kind (x_).Kinds),(49,ti ((x_).Kinds.length : Int)),(50,ti s33.1),(5,tcloE 32 [tv (n4 0)]),(4,tv (n4 0)),(1,tptr (rSapi_Schema.cs x_))] [glo,box (rVal.cs v198) (n4 0),own rStyping_Problem 63 s182.2 v198] a w := (((((hst.pick [7,8,9,10,11,12,13,14,15,16,17,18,19,20,21,22]).selA [3,0,1,2] rfl).shareB 0 rfl).add 0 rfl (fun _ _ _ h => h.2)).pick [0,3,4,5,6,7,8,9,10,11,12,13,14,15,16,17])
     refine hK223 _ _ ?_
     try clear hK223 K223
     refine wp_seq_k (fun K225 hK225 => ?_)
     refine wp_reg mixed [] hst (fun _ => .q 1 rfl <| .q 0 rfl <| .g rfl rfl (.b 0 rfl) (fun _ => op_move (.t 4 rfl)) <| .g rfl rfl (.b 1 rfl) (fun hc => op_eql (.cond (.t 0 rfl) hc) .k) <| .p rfl (op_and (.t 2 rfl) (fun hp => (.cond (.t 0 rfl) (beqT hp)))) <| .nil _ _) (by kernel_rfl) (fun n21 a w hst => ?_)
     replace hst : St M w0 119 [(89,tb ((fChecks (t67).Kind).isSome && (t77 == (0:Int)))),(14,tptr (rSX_check.cs (SX_check.mk (fChecks (t67).Kind)))),(13,ti t77),(12,tptr (rSapi_Field.cs t67)),(11,ti s182.1),(62,tsl rSapi_Field (t53).Fields),(63,ti ((t53).Fields.length : Int)),(64,ti s182.1),(10,tptr (rSapi_Kind.cs t53)),(9,ti s33.1),(48,tsl rSapi_Kind (x_).Kinds),(49,ti ((x_).Kinds.length : Int)),(50,ti s33.1),(5,tcloE 32 [tv (n4 0)]),(4,tv (n4 0)),(1,tptr (rSapi_Schema.cs x_))] [glo,box (rVal.cs v198) (n4 0),own rStyping_Problem 63 s182.2 v198] a w := (hst.pick [4,5,7,8,9,10,11,12,13,14,15,16,17,18,19,20])
     refine hK225 _ _ ?_
     try clear hK225 K225
     obtain ⟨p226,hp226,h⟩ := bind_some h
     have hJp226 : ∀ a w,St M w0 119 [(13,ti p226),(11,ti s182.1),(62,tsl rSapi_Field (t53).Fields),(63,ti ((t53).Fields.length : Int)),(64,ti s182.1),(10,tptr (rSapi_Kind.cs t53)),(9,ti s33.1),(48,tsl rSapi_Kind (x_).Kinds),(49,ti ((x_).Kinds.length : Int)),(50,ti s33.1),(5,tcloE 32 [tv (n4 0)]),(4,tv (n4 0)),(1,tptr (rSapi_Schema.cs x_))] [glo,box (rVal.cs v198) (n4 0),own rStyping_Problem 63 s182.2 v198] a w → K222 a w := by
      intro a w hst
      refine hK222 _ _ ?_
      try clear hK222 K222
      obtain ⟨t102,ht102,h⟩ := bind_some h
      refine wp_reg mixed [v1 4 (fun v0 => box (rVal.cs v0) (n4 0)),v1 4 (fun v0 => own rStyping_Problem 63 t102 v0)] hst (fun _ => .q 10 rfl <| .q 7 rfl <| .q 3 rfl <| .q 3 rfl <| .e [] [1,2] [3,4] rfl rfl rfl rfl (op_callC call32 (typing_Checkq1_ok ht102) (.t 3 rfl) (.cons (.of (.t 2 rfl)) <| .cons (.of (.t 1 rfl)) <| .cons (.of .k) <| .cons (.of (.t 0 rfl)) <| .nil)) <| .nil _ _) (by kernel_rfl) (fun n23 a w hst => ?_)
      replace hst : St M w0 119 [(62,tsl rSapi_Field (t53).Fields),(63,ti ((t53).Fields.length : Int)),(64,ti s182.1),(10,tptr (rSapi_Kind.cs t53)),(9,ti s33.1),(48,tsl rSapi_Kind (x_).Kinds),(49,ti ((x_).Kinds.length : Int)),(50,ti s33.1),(5,tcloE 32 [tv (n4 0)]),(4,tv (n4 0)),(1,tptr (rSapi_Schema.cs x_))] [glo,box (rVal.cs (n23 4)) (n4 0),own rStyping_Problem 63 t102 (n23 4)] a w := (hst.pick [7,8,9,10,11,12,13,14,15,16,17])
      refine hK218 _ _ ?_
      try clear hK218 K218
      refine wp_reg mixed [] hst (fun _ => .p rfl (op_add (.t 2 rfl) .k) <| .q 0 rfl <| .nil _ _) (by kernel_rfl) (fun n24 a w hst => ?_)
      replace hst : St M w0 119 [(64,ti (IntKind.i64.wrap (s182.1 + (1:Int)))),(62,tsl rSapi_Field (t53).Fields),(63,ti ((t53).Fields.length : Int)),(10,tptr (rSapi_Kind.cs t53)),(9,ti s33.1),(48,tsl rSapi_Kind (x_).Kinds),(49,ti ((x_).Kinds.length : Int)),(50,ti s33.1),(5,tcloE 32 [tv (n4 0)]),(4,tv (n4 0)),(1,tptr (rSapi_Schema.cs x_))] [glo,box (rVal.cs (n23 4)) (n4 0),own rStyping_Problem 63 t102 (n23 4)] a w := (hst.pick [1,2,3,4,5,6,7,8,9,10,11])
      exact hK215 _ _ _ (sj h).symm ⟨(n23 4),hst.pick [1,2,0,3,4,5,6,7,8,9,10]⟩
     replace h := hp226
     clear hp226
     refine wp_test 0 hst rfl (fun b228 => ?_) (fun b228 => ?_)
     ·replace h := ite_t b228 h
      obtain ⟨t97,ht97,h⟩ := bind_some h
      refine wp_reg mixed [] hst (fun _ => .p rfl (op_field fld75_0 (.t 1 rfl)) <| .p rfl (op_loadT (R := rFo74) (u := ((SX_check.mk (fChecks (t67).Kind))).check) tokFo74 (.t 0 rfl) rfl) <| .p rfl (op_load tok34 (.t 17 rfl)) <| .q 12 rfl <| .q 8 rfl <| .p rfl (op_load tok44 (.t 8 rfl)) <| .p (T := rStyping_spot.ty (Styping_spot.mk x_ s33.1 s182.1 t67)) rfl (op_build Tryz.underlying79 pl79 zv79 zc79 (.cons (R := rSapi_Schema) (u := x_) rfl (.t 3 rfl) (leb rfl) <| .cons (R := rI) (u := s33.1) rfl (.t 2 rfl) (leb rfl) <| .cons (R := rI) (u := s182.1) rfl (.t 1 rfl) (leb rfl) <| .cons (R := rSapi_Field) (u := t67) rfl (.t 0 rfl) (leb rfl) <| .nil _)) <| .p rfl (op_callO (u := (Styping_spot.mk x_ s33.1 s182.1 t67)) (.t 5 rfl) (.cons (.of (.t 0 rfl)) <| .nil) ht97) <| .p rfl (op_assign (.t 0 rfl)) <| .nil _ _) (by kernel_rfl) (fun n22 a w hst => ?_)
      replace hst : St M w0 119 [(13,ti t97),(11,ti s182.1),(62,tsl rSapi_Field (t53).Fields),(63,ti ((t53).Fields.length : Int)),(64,ti s182.1),(10,tptr (rSapi_Kind.cs t53)),(9,ti s33.1),(48,tsl rSapi_Kind (x_).Kinds),(49,ti ((x_).Kinds.length : Int)),(50,ti s33.1),(5,tcloE 32 [tv (n4 0)]),(4,tv (n4 0)),(1,tptr (rSapi_Schema.cs x_))] [glo,box (rVal.cs v198) (n4 0),own rStyping_Problem 63 s182.2 v198] a w := (hst.pick [8,12,13,14,15,16,17,18,19,20,21,22,23])
      obtain rfl := sj h
      exact hJp226 _ _ (hst.pick [0,1,2,3,4,5,6,7,8,9,10,11,12])
     ·replace h := ite_f b228 h
      refine wp_skip ?_
      obtain rfl := sj h
      exact hJp226 _ _ (hst.pick [2,4,5,6,7,8,9,10,11,12,13,14,15])
    ·replace h := ite_f b229 h
     refine wp_exit ?_
     exact hJp213 _ v198 _ _ (ho _ (sj h).symm) (hst.pick [6,7,8,9,10,11])
   ·replace h := ite_f b230 h
    refine wp_exit ?_
    exact hJp148 _ v91 _ _ (ho _ (sj h).symm) (hst.pick [4,5,6])
  refine wp_block ?_
  refine wp_loopK _ (fun (s12 : Int × List Styping_Problem) a w => ∃ v21 : Value,St M w0 119 [(26,tsl rSapi_Life (x_).Lives),(27,ti ((x_).Lives.length : Int)),(28,ti s12.1),(5,tcloE 32 [tv (n4 0)]),(4,tv (n4 0)),(1,tptr (rSapi_Schema.cs x_))] [own rStyping_Problem 63 s12.2 v21,glo,box (rVal.cs v21) (n4 0)] a w) _ _ he13 ⟨nilV,hst.pick [0,1,2,3,4,5]⟩ ?_
  clear h
  intro s12 o a w K231 hI h ho hK231
  obtain ⟨v21,hst⟩ := hI
  refine wp_seq_k (fun K232 hK232 => ?_)
  refine wp_reg mixed [] hst (fun _ => .p rfl (op_lss (.t 2 rfl) (.t 1 rfl)) <| .nil _ _) (by kernel_rfl) (fun n7 a w hst => ?_)
  replace hst : St M w0 119 [(29,tb (decide (s12.1 < ((x_).Lives.length : Int)))),(26,tsl rSapi_Life (x_).Lives),(27,ti ((x_).Lives.length : Int)),(28,ti s12.1),(5,tcloE 32 [tv (n4 0)]),(4,tv (n4 0)),(1,tptr (rSapi_Schema.cs x_))] [own rStyping_Problem 63 s12.2 v21,glo,box (rVal.cs v21) (n4 0)] a w := (hst.pick [0,1,2,3,4,5,6])
  refine hK232 _ _ ?_
  try clear hK232 K232
  refine wp_seq_k (fun K233 hK233 => ?_)
  refine wp_test 0 hst rfl (fun b238 => ?_) (fun b238 => ?_)
  ·replace h := ite_t b238 h
   refine wp_skip ?_
   refine hK233 _ _ ?_
   try clear hK233 K233
   refine wp_seq_k (fun K234 hK234 => ?_)
   refine wp_block ?_
   refine wp_seq_k (fun K235 hK235 => ?_)
   obtain ⟨t31,ht31,h⟩ := bind_some h
   refine wp_reg mixed [v1 3 (fun v0 => box (rSapi_Life.cs (Sapi_Life.mk ([] : Str) ([] : (List Str)) ([] : (List A2_Int)))) v0),v1 3 (fun v0 => box (rSapi_Life.cs t31) v0)] hst (fun _ => .q 3 rfl <| .p rfl (op_index Tryz.underlying31 tok67 (.t 2 rfl) (.t 4 rfl) ht31) <| .p rfl (op_load tok67 (.t 0 rfl)) <| .m [] [3] rfl rfl rfl (op_alloc (R := rSapi_Life) (a := (Sapi_Life.mk ([] : Str) ([] : (List Str)) ([] : (List A2_Int)))) tok67 zok67) <| .p rfl (op_assign (.t 3 rfl)) <| .e [] [3] [4] rfl rfl rfl rfl (op_storeB (R := rSapi_Life) (a := t31) tok67 (.t 1 rfl) (.t 2 rfl) (leb rfl)) <| .nil _ _) (by kernel_rfl) (fun n8 a w hst => ?_)
   replace hst : St M w0 119 [(7,tptr (rSapi_Life.cs t31)),(6,ti s12.1),(26,tsl rSapi_Life (x_).Lives),(27,ti ((x_).Lives.length : Int)),(28,ti s12.1),(5,tcloE 32 [tv (n4 0)]),(4,tv (n4 0)),(1,tptr (rSapi_Schema.cs x_))] [own rStyping_Problem 63 s12.2 v21,glo,box (rVal.cs v21) (n4 0)] a w := (((((hst.pick [3,4,6,7,8,9,10,11]).selA [3,0,1,2] rfl).shareB 0 rfl).add 0 rfl (fun _ _ _ h => h.2)).pick [0,3,4,5,6,7,8,9])
   refine hK235 _ _ ?_
   try clear hK235 K235
   refine wp_seq_k (fun K237 hK237 => ?_)
   obtain ⟨t36,ht36,h⟩ := bind_some h
   obtain ⟨t38,ht38,h⟩ := bind_some h
   refine wp_reg mixed [] hst (fun _ => .p rfl (op_field fld34_2 (.t 7 rfl)) <| .p rfl (op_loadT (R := (rSl rSapi_Life)) (u := (x_).Lives) tok31 (.t 0 rfl) rfl) <| .q 3 rfl <| .p rfl (op_slice Tryz.underlying31 tok67 (.t 1 rfl) (.no _) (.op (.t 0 rfl)) ht36) <| .p rfl (op_clo (.cons (.t 4 rfl) <| .nil)) <| .p rfl (op_callF call33 (slices_ContainsFunc_Life_ok ht38) (.cons (.of (.t 1 rfl)) <| .cons (.of (Fct.weak (.t 0 rfl) (tfn_of call34 (fun _ _ hq => typing_Checkq2_ok hq)))) <| .nil)) <| .p rfl (op_assign (.t 0 rfl)) <| .nil _ _) (by kernel_rfl) (fun n9 a w hst => ?_)
   replace hst : St M w0 119 [(8,tb t38),(6,ti s12.1),(26,tsl rSapi_Life (x_).Lives),(27,ti ((x_).Lives.length : Int)),(28,ti s12.1),(5,tcloE 32 [tv (n4 0)]),(4,tv (n4 0)),(1,tptr (rSapi_Schema.cs x_))] [own rStyping_Problem 63 s12.2 v21,glo,box (rVal.cs v21) (n4 0)] a w := (hst.pick [6,8,9,10,11,12,13,14])
   refine hK237 _ _ ?_
   try clear hK237 K237
   obtain ⟨t44,ht44,h⟩ := bind_some h
   obtain ⟨t45,ht45,h⟩ := bind_some h
   refine wp_reg mixed [v1 6 (fun v0 => box (rVal.cs v0) (n4 0)),v1 6 (fun v0 => own rStyping_Problem 63 t45 v0)] hst (fun _ => .q 5 rfl <| .q 2 rfl <| .q 2 rfl <| .p (T := rStyping_fault.ty (Styping_fault.mk t38 (7:Int))) rfl (op_build Tryz.underlying72 pl72 zv72 zc72 (.cons (R := rBool) (u := t38) rfl (.t 0 rfl) (leb rfl) <| .cons (R := rI) (u := (7:Int)) rfl .k (leb rfl) <| .nil _)) <| .p rfl (op_buildSl (R := rStyping_fault) (us := [(Styping_fault.mk t38 (7:Int))]) Tryz.underlying135 tok72 (.cons (.t 0 rfl) <| .nil _) rfl (leb rfl)) <| .p rfl (op_callF call35 (typing_first_ok ht44) (.cons (.of (.t 0 rfl)) <| .nil)) <| .e [] [2,0] [3,4] rfl rfl rfl rfl (op_callC call32 (typing_Checkq1_ok ht45) (.t 5 rfl) (.cons (.of .k) <| .cons (.of (.t 4 rfl)) <| .cons (.of .k) <| .cons (.of (.t 0 rfl)) <| .nil)) <| .nil _ _) (by kernel_rfl) (fun n10 a w hst => ?_)
   replace hst : St M w0 119 [(26,tsl rSapi_Life (x_).Lives),(27,ti ((x_).Lives.length : Int)),(28,ti s12.1),(5,tcloE 32 [tv (n4 0)]),(4,tv (n4 0)),(1,tptr (rSapi_Schema.cs x_))] [glo,box (rVal.cs (n10 6)) (n4 0),own rStyping_Problem 63 t45 (n10 6)] a w := (hst.pick [9,10,11,12,13,14])
   refine hK234 _ _ ?_
   try clear hK234 K234
   refine wp_reg mixed [] hst (fun _ => .p rfl (op_add (.t 2 rfl) .k) <| .q 0 rfl <| .nil _ _) (by kernel_rfl) (fun n11 a w hst => ?_)
   replace hst : St M w0 119 [(28,ti (IntKind.i64.wrap (s12.1 + (1:Int)))),(26,tsl rSapi_Life (x_).Lives),(27,ti ((x_).Lives.length : Int)),(5,tcloE 32 [tv (n4 0)]),(4,tv (n4 0)),(1,tptr (rSapi_Schema.cs x_))] [glo,box (rVal.cs (n10 6)) (n4 0),own rStyping_Problem 63 t45 (n10 6)] a w := (hst.pick [1,2,3,4,5,6])
   exact hK231 _ _ _ (sj h).symm ⟨(n10 6),(hst.pick [1,2,0,3,4,5]).selA [2,0,1] rfl⟩
  ·replace h := ite_f b238 h
   refine wp_exit ?_
   exact hJp29 _ v21 _ _ (ho _ (sj h).symm) (hst.pick [4,5,6])

/- diorama/dioramalaw10.plain -/
noncomputable def flaw10_plain (l_ : (List Styping_Problem)) : Option ((List Sref10_Problem)) := (tailrec (fun (s6 : Int × List Sref10_Problem) => ((if (decide (s6.1 < (l_.length : Int))) = true then (idx l_ s6.1).bind fun t14 => (idx l_ s6.1).bind fun t19 => (idx l_ s6.1).bind fun t24 => (idx l_ s6.1).bind fun t29 => (rm (s6.2.length + [(Sref10_Problem.mk (t14).Kind (t19).Field (t24).Rule (t29).Code)].length)).bind fun _ => (some (.inl ((IntKind.i64.wrap (s6.1 + (1:Int))),(s6.2 ++ [(Sref10_Problem.mk (t14).Kind (t19).Field (t24).Rule (t29).Code)])))) else (some (.inr s6.2))) : Option ((Int × List Sref10_Problem) ⊕ ((List Sref10_Problem))))) ((0:Int),([] : List Sref10_Problem))).bind fun (p17 : (List Sref10_Problem)) => (some p17)
set_option maxRecDepth 100000 in
set_option maxHeartbeats 4000000 in
theorem law10_plain_ok {l_ : (List Styping_Problem)} {r : (List Sref10_Problem)} (h : flaw10_plain l_ = some r) : FnOk Tryz.prog 9 [tsl rStyping_Problem l_] [] (fun _ => []) (fun _ => tsl rSref10_Problem r) := by
 unfold flaw10_plain at h
 refine FnOk.enter Tryz.func9 rfl Tryz.ntmps9 (leb rfl) (fun M0 M w0 a hpl hst => ?_)
 replace hst : St M w0 36 [(0,tsl rStyping_Problem l_)] [] a w0 := hst
 refine wp_seq_k (fun K1 hK1 => ?_)
 refine wp_reg mixed [] hst (fun _ => .p rfl (op_assign (.nilsl (R := rSref10_Problem))) <| .nil _ _) (by kernel_rfl) (fun n0 a w hst => ?_)
 replace hst : St M w0 36 [(0,tsl rStyping_Problem l_)] [] a w := (hst.pick [1])
 refine hK1 _ _ ?_
 try clear hK1 K1
 refine wp_seq_k (fun K2 hK2 => ?_)
 refine wp_reg mixed [] hst (fun _ => .p rfl (op_assign .k) <| .nil _ _) (by kernel_rfl) (fun n1 a w hst => ?_)
 replace hst : St M w0 36 [(3,tv (.slice none 0 0)),(0,tsl rStyping_Problem l_)] [own rSref10_Problem 62 ([] : List Sref10_Problem) (.slice none 0 0)] a w := ((hst.pick [0,1]).nil (rSref10_Problem) 62)
 refine hK2 _ _ ?_
 try clear hK2 K2
 refine wp_seq_k (fun K4 hK4 => ?_)
 refine wp_seq_k (fun K5 hK5 => ?_)
 refine wp_reg mixed [] hst (fun _ => .p rfl (op_assign .k) <| .nil _ _) (by kernel_rfl) (fun n2 a w hst => ?_)
 replace hst : St M w0 36 [(4,ti (0:Int)),(3,tv (.slice none 0 0)),(0,tsl rStyping_Problem l_)] [own rSref10_Problem 62 ([] : List Sref10_Problem) (.slice none 0 0)] a w := (hst.pick [0,1,2])
 refine hK5 _ _ ?_
 try clear hK5 K5
 obtain ⟨e7,he7,h⟩ := bind_some h
 have hJp17 : ∀ (p17 : List Sref10_Problem) (v18 : Value) a w,p17 = e7 → St M w0 36 [(3,tv v18)] [own rSref10_Problem 62 p17 v18] a w → K4 a w := by
  intro p17 v18 a w he hst
  subst he
  refine hK4 _ _ ?_
  try clear hK4 K4
  refine wp_seq_k (fun K19 hK19 => ?_)
  refine wp_reg mixed [] hst (fun _ => .q 0 rfl <| .p rfl (op_assign (.t 0 rfl)) <| .nil _ _) (by kernel_rfl) (fun n6 a w hst => ?_)
  replace hst : St M w0 36 [(35,tv v18),(2,tv v18),(3,tv v18)] [own rSref10_Problem 62 p17 v18] a w := (hst.pick [0,1,2])
  refine hK19 _ _ ?_
  try clear hK19 K19
  refine wp_ret ?_
  replace hst : St M w0 36 [(2,tsl rSref10_Problem p17)] [] a w := ((hst.shareO 1 rfl).pick [0])
  obtain rfl := sj h
  exact ret_st undef [] hpl hst rfl (.tmp (.t 0 rfl) .nil) rfl rfl rfl
 refine wp_block ?_
 refine wp_loopK _ (fun (s6 : Int × List Sref10_Problem) a w => ∃ v12 : Value,St M w0 36 [(4,ti s6.1),(3,tv v12),(0,tsl rStyping_Problem l_)] [own rSref10_Problem 62 s6.2 v12] a w) _ _ he7 ⟨(.slice none 0 0),hst.pick [0,1,2]⟩ ?_
 clear h
 intro s6 o a w K20 hI h ho hK20
 obtain ⟨v12,hst⟩ := hI
 refine wp_seq_k (fun K21 hK21 => ?_)
 refine wp_seq_k (fun K22 hK22 => ?_)
 refine wp_reg mixed [] hst (fun _ => .q 0 rfl <| .q 3 rfl <| .p rfl (op_len Tryz.underlying28 (.t 0 rfl)) <| .p rfl (op_lss (.t 2 rfl) (.t 0 rfl)) <| .nil _ _) (by kernel_rfl) (fun n3 a w hst => ?_)
 replace hst : St M w0 36 [(8,tb (decide (s6.1 < (l_.length : Int)))),(4,ti s6.1),(3,tv v12),(0,tsl rStyping_Problem l_)] [own rSref10_Problem 62 s6.2 v12] a w := (hst.pick [3,4,5,6])
 refine hK22 _ _ ?_
 try clear hK22 K22
 refine wp_test 0 hst rfl (fun b24 => ?_) (fun b24 => ?_)
 ·replace h := ite_t b24 h
  refine wp_skip ?_
  refine hK21 _ _ ?_
  try clear hK21 K21
  refine wp_seq_k (fun K23 hK23 => ?_)
  refine wp_block ?_
  obtain ⟨t14,ht14,h⟩ := bind_some h
  obtain ⟨t19,ht19,h⟩ := bind_some h
  obtain ⟨t24,ht24,h⟩ := bind_some h
  obtain ⟨t29,ht29,h⟩ := bind_some h
  obtain ⟨u34,hu34,h⟩ := bind_some h
  refine wp_reg mixed [v1 23 (fun v0 => own rSref10_Problem 62 (s6.2 ++ [(Sref10_Problem.mk (t14).Kind (t19).Field (t24).Rule (t29).Code)]) v0)] hst (fun _ => .q 2 rfl <| .q 4 rfl <| .q 3 rfl <| .p rfl (op_index Tryz.underlying28 tok63 (.t 1 rfl) (.t 0 rfl) ht14) <| .p rfl (op_field fld63_0 (.t 0 rfl)) <| .p rfl (op_loadT (R := rI) (u := (t14).Kind) tok3 (.t 0 rfl) rfl) <| .q 9 rfl <| .q 8 rfl <| .p rfl (op_index Tryz.underlying28 tok63 (.t 1 rfl) (.t 0 rfl) ht19) <| .p rfl (op_field fld63_1 (.t 0 rfl)) <| .p rfl (op_loadT (R := rI) (u := (t19).Field) tok3 (.t 0 rfl) rfl) <| .q 14 rfl <| .q 13 rfl <| .p rfl (op_index Tryz.underlying28 tok63 (.t 1 rfl) (.t 0 rfl) ht24) <| .p rfl (op_field fld63_2 (.t 0 rfl)) <| .p rfl (op_loadT (R := rI) (u := (t24).Rule) tok3 (.t 0 rfl) rfl) <| .q 19 rfl <| .q 18 rfl <| .p rfl (op_index Tryz.underlying28 tok63 (.t 1 rfl) (.t 0 rfl) ht29) <| .p rfl (op_field fld63_3 (.t 0 rfl)) <| .p rfl (op_loadT (R := rI) (u := (t29).Code) tok54 (.t 0 rfl) rfl) <| .p (T := rSref10_Problem.ty (Sref10_Problem.mk (t14).Kind (t19).Field (t24).Rule (t29).Code)) rfl (op_build Tryz.underlying62 pl62 zv62 zc62 (.cons (R := rI) (u := (t14).Kind) rfl (.t 15 rfl) (leb rfl) <| .cons (R := rI) (u := (t19).Field) rfl (.t 10 rfl) (leb rfl) <| .cons (R := rI) (u := (t24).Rule) rfl (.t 5 rfl) (leb rfl) <| .cons (R := rI) (u := (t29).Code) rfl (.t 0 rfl) (leb rfl) <| .nil _)) <| .p rfl (op_buildSl (R := rSref10_Problem) (us := [(Sref10_Problem.mk (t14).Kind (t19).Field (t24).Rule (t29).Code)]) Tryz.underlying26 tok62 (.cons (.t 0 rfl) <| .nil _) rfl (leb rfl)) <| .e [] [0] [1] rfl rfl rfl rfl (op_append (R := rSref10_Problem) Tryz.underlying26 tok62 (leb rfl) (.t 22 rfl) (.t 0 rfl) hu34) <| .ud (f := fun v => tv v) 23 rfl [] rfl rfl (op_assign (.t 0 rfl)) <| .nil _ _) (by kernel_rfl) (fun n5 a w hst => ?_)
  replace hst : St M w0 36 [(34,tv (n5 23)),(3,tv (n5 23)),(4,ti s6.1),(0,tsl rStyping_Problem l_)] [own rSref10_Problem 62 (s6.2 ++ [(Sref10_Problem.mk (t14).Kind (t19).Field (t24).Rule (t29).Code)]) (n5 23)] a w := (hst.pick [23,24,26,27])
  refine hK23 _ _ ?_
  try clear hK23 K23
  refine wp_reg mixed [] hst (fun _ => .q 2 rfl <| .p rfl (op_add (.t 0 rfl) .k) <| .p rfl (op_assign (.t 0 rfl)) <| .nil _ _) (by kernel_rfl) (fun n4 a w hst => ?_)
  replace hst : St M w0 36 [(4,ti (IntKind.i64.wrap (s6.1 + (1:Int)))),(34,tv (n5 23)),(3,tv (n5 23)),(0,tsl rStyping_Problem l_)] [own rSref10_Problem 62 (s6.2 ++ [(Sref10_Problem.mk (t14).Kind (t19).Field (t24).Rule (t29).Code)]) (n5 23)] a w := (hst.pick [2,3,4,5])
  exact hK20 _ _ _ (sj h).symm ⟨(n5 23),hst.pick [0,2,3]⟩
 ·replace h := ite_f b24 h
  refine wp_exit ?_
  exact hJp17 _ v12 _ _ (ho _ (sj h).symm) (hst.pick [2])

/- diorama/dioramaref10.Same -/
noncomputable def fref10_Same (a_ : (List Sref10_Problem)) (b_ : (List Sref10_Problem)) : Option (Bool) := (if ((a_.length : Int) != (b_.length : Int)) = true then (some false) else (tailrec (fun (s7 : Int) => ((if (decide (s7 < (a_.length : Int))) = true then (idx a_ s7).bind fun t19 => (idx b_ s7).bind fun t23 => (if (!eqSref10_Problem t19 t23) = true then (some (.inr (.inr false))) else (some (.inl (IntKind.i64.wrap (s7 + (1:Int)))))) else (some (.inr (.inl ())))) : Option ((Int) ⊕ ((Unit) ⊕ (Bool))))) (0:Int)).bind fun (e8 : (Unit) ⊕ (Bool)) => (match e8 with | .inl p23 => (some true) | .inr p24 => (some p24)))
set_option maxRecDepth 100000 in
set_option maxHeartbeats 4000000 in
theorem ref10_Same_ok {a_ : (List Sref10_Problem)} {b_ : (List Sref10_Problem)} {r : Bool} (h : fref10_Same a_ b_ = some r) : FnOk Tryz.prog 8 [tsl rSref10_Problem a_,tsl rSref10_Problem b_] [] (fun _ => []) (fun _ => tb r) := by
 unfold fref10_Same at h
 refine FnOk.enter Tryz.func8 rfl Tryz.ntmps8 (leb rfl) (fun M0 M w0 a hpl hst => ?_)
 replace hst : St M w0 26 [(0,tsl rSref10_Problem a_),(1,tsl rSref10_Problem b_)] [] a w0 := hst
 refine wp_seq_k (fun K1 hK1 => ?_)
 refine wp_reg mixed [] hst (fun _ => .p rfl (op_assign .k) <| .nil _ _) (by kernel_rfl) (fun n0 a w hst => ?_)
 replace hst : St M w0 26 [(0,tsl rSref10_Problem a_),(1,tsl rSref10_Problem b_)] [] a w := (hst.pick [1,2])
 refine hK1 _ _ ?_
 try clear hK1 K1
 refine wp_seq_k (fun K2 hK2 => ?_)
 refine wp_seq_k (fun K3 hK3 => ?_)
 refine wp_reg mixed [] hst (fun _ => .q 0 rfl <| .p rfl (op_len Tryz.underlying26 (.t 0 rfl)) <| .q 3 rfl <| .p rfl (op_len Tryz.underlying26 (.t 0 rfl)) <| .p rfl (op_neq (.t 2 rfl) (.t 0 rfl)) <| .nil _ _) (by kernel_rfl) (fun n1 a w hst => ?_)
 replace hst : St M w0 26 [(10,tb ((a_.length : Int) != (b_.length : Int))),(0,tsl rSref10_Problem a_),(1,tsl rSref10_Problem b_)] [] a w := (hst.pick [4,5,6])
 refine hK3 _ _ ?_
 try clear hK3 K3
 refine wp_test 0 hst rfl (fun b34 => ?_) (fun b34 => ?_)
 ·replace h := ite_t b34 h
  refine wp_seq_k (fun K4 hK4 => ?_)
  refine wp_reg mixed [] hst (fun _ => .p rfl (op_assign .k) <| .nil _ _) (by kernel_rfl) (fun n2 a w hst => ?_)
  replace hst : St M w0 26 [(4,tb false)] [] a w := (hst.pick [0])
  refine hK4 _ _ ?_
  try clear hK4 K4
  refine wp_ret ?_
  obtain rfl := sj h
  exact ret_st undef [] hpl hst rfl (.tmp (.t 0 rfl) .nil) rfl rfl rfl
 ·replace h := ite_f b34 h
  refine wp_skip ?_
  refine hK2 _ _ ?_
  try clear hK2 K2
  refine wp_seq_k (fun K5 hK5 => ?_)
  refine wp_seq_k (fun K6 hK6 => ?_)
  refine wp_reg mixed [] hst (fun _ => .p rfl (op_assign .k) <| .nil _ _) (by kernel_rfl) (fun n3 a w hst => ?_)
  replace hst : St M w0 26 [(5,ti (0:Int)),(0,tsl rSref10_Problem a_),(1,tsl rSref10_Problem b_)] [] a w := (hst.pick [0,2,3])
  refine hK6 _ _ ?_
  try clear hK6 K6
  obtain ⟨e8,he8,h⟩ := bind_some h
  have hJp23 : ∀ (p23 : Unit) a w,(.inl p23) = e8 → St M w0 26 [] [] a w → K5 a w := by
   intro p23 a w he hst
   subst he
   simp only at h
   refine hK5 _ _ ?_
   try clear hK5 K5
   refine wp_seq_k (fun K25 hK25 => ?_)
   refine wp_reg mixed [] hst (fun _ => .p rfl (op_assign .k) <| .nil _ _) (by kernel_rfl) (fun n8 a w hst => ?_)
   replace hst : St M w0 26 [(4,tb true)] [] a w := (hst.pick [0])
   refine hK25 _ _ ?_
   try clear hK25 K25
   refine wp_ret ?_
   obtain rfl := sj h
   exact ret_st undef [] hpl hst rfl (.tmp (.t 0 rfl) .nil) rfl rfl rfl
  have hJp24 : ∀ (p24 : Bool) a w,(.inr p24) = e8 → St M w0 26 [(4,tb p24)] [] a w → Ret Tryz.prog Tryz.f8 M0 [] w0 (fun _ => []) (fun _ => tb r) .ret a w := by
   intro p24 a w he hst
   subst he
   simp only at h
   obtain rfl := sj h
   exact ret_st undef [] hpl hst rfl (.tmp (.t 0 rfl) .nil) rfl rfl rfl
  refine wp_block ?_
  refine wp_loopK _ (fun (s7 : Int) a w => St M w0 26 [(5,ti s7),(0,tsl rSref10_Problem a_),(1,tsl rSref10_Problem b_)] [] a w) _ _ he8 (hst.pick [0,1,2]) ?_
  clear h
  intro s7 o a w K26 hI h ho hK26
  have hst := hI
  clear hI
  refine wp_seq_k (fun K27 hK27 => ?_)
  refine wp_seq_k (fun K28 hK28 => ?_)
  refine wp_reg mixed [] hst (fun _ => .q 0 rfl <| .q 2 rfl <| .p rfl (op_len Tryz.underlying26 (.t 0 rfl)) <| .p rfl (op_lss (.t 2 rfl) (.t 0 rfl)) <| .nil _ _) (by kernel_rfl) (fun n4 a w hst => ?_)
  replace hst : St M w0 26 [(14,tb (decide (s7 < (a_.length : Int)))),(5,ti s7),(0,tsl rSref10_Problem a_),(1,tsl rSref10_Problem b_)] [] a w := (hst.pick [3,4,5,6])
  refine hK28 _ _ ?_
  try clear hK28 K28
  refine wp_test 0 hst rfl (fun b33 => ?_) (fun b33 => ?_)
  ·replace h := ite_t b33 h
   refine wp_skip ?_
   refine hK27 _ _ ?_
   try clear hK27 K27
   refine wp_seq_k (fun K29 hK29 => ?_)
   refine wp_block ?_
   refine wp_seq_k (fun K30 hK30 => ?_)
   obtain ⟨t19,ht19,h⟩ := bind_some h
   obtain ⟨t23,ht23,h⟩ := bind_some h
   refine wp_reg mixed [] hst (fun _ => .q 2 rfl <| .q 2 rfl <| .p rfl (op_index Tryz.underlying26 tok62 (.t 1 rfl) (.t 0 rfl) ht19) <| .p rfl (op_load tok62 (.t 0 rfl)) <| .q 7 rfl <| .q 6 rfl <| .p rfl (op_index Tryz.underlying26 tok62 (.t 1 rfl) (.t 0 rfl) ht23) <| .p rfl (op_load tok62 (.t 0 rfl)) <| .p rfl (op_neq_t62 (.t 4 rfl) (.t 0 rfl)) <| .nil _ _) (by kernel_rfl) (fun n6 a w hst => ?_)
   replace hst : St M w0 26 [(25,tb (!eqSref10_Problem t19 t23)),(5,ti s7),(0,tsl rSref10_Problem a_),(1,tsl rSref10_Problem b_)] [] a w := (hst.pick [8,10,11,12])
   refine hK30 _ _ ?_
   try clear hK30 K30
   refine wp_test 0 hst rfl (fun b32 => ?_) (fun b32 => ?_)
   ·replace h := ite_t b32 h
    refine wp_seq_k (fun K31 hK31 => ?_)
    refine wp_reg mixed [] hst (fun _ => .p rfl (op_assign .k) <| .nil _ _) (by kernel_rfl) (fun n7 a w hst => ?_)
    replace hst : St M w0 26 [(4,tb false)] [] a w := (hst.pick [0])
    refine hK31 _ _ ?_
    try clear hK31 K31
    refine wp_ret ?_
    exact hJp24 _ _ _ (ho _ (sj h).symm) (hst.pick [0])
   ·replace h := ite_f b32 h
    refine wp_skip ?_
    refine hK29 _ _ ?_
    try clear hK29 K29
    refine wp_reg mixed [] hst (fun _ => .q 1 rfl <| .p rfl (op_add (.t 0 rfl) .k) <| .p rfl (op_assign (.t 0 rfl)) <| .nil _ _) (by kernel_rfl) (fun n5 a w hst => ?_)
    replace hst : St M w0 26 [(5,ti (IntKind.i64.wrap (s7 + (1:Int)))),(0,tsl rSref10_Problem a_),(1,tsl rSref10_Problem b_)] [] a w := (hst.pick [2,4,5])
    exact hK26 _ _ _ (sj h).symm (hst.pick [0,1,2])
  ·replace h := ite_f b33 h
   refine wp_exit ?_
   exact hJp23 _ _ _ (ho _ (sj h).symm) (hst.pick [])

/- diorama/dioramalaw10.lives -/
noncomputable def flaw10_lives  : Option (Bool) := (flaw10_example false false).bind fun t4 => (ftyping_Check t4).bind fun t5 => (flaw10_plain t5).bind fun t6 => (flaw10_example true false).bind fun t7 => (ftyping_Check t7).bind fun t8 => (flaw10_plain t8).bind fun t9 => (flaw10_example true true).bind fun t10 => (ftyping_Check t10).bind fun t11 => (flaw10_plain t11).bind fun t12 => (fref10_Same t6 [(Sref10_Problem.mk (1:Int) (2:Int) (-1:Int) (13:Int))]).bind fun t16 => (opt ((t16 && ((t9.length : Int) == (0:Int))) == true) (fref10_Same t12 [(Sref10_Problem.mk (0:Int) (1:Int) (-1:Int) (12:Int)),(Sref10_Problem.mk (0:Int) (2:Int) (-1:Int) (12:Int))]) default).bind fun t27 => (some ((t16 && ((t9.length : Int) == (0:Int))) && t27))
set_option maxRecDepth 100000 in
set_option maxHeartbeats 4000000 in
theorem law10_lives_ok {r : Bool} (h : flaw10_lives  = some r) : FnOk Tryz.prog 12 [] [glo] (fun _ => []) (fun _ => tb r) := by
 unfold flaw10_lives at h
 refine FnOk.enter Tryz.func12 rfl Tryz.ntmps12 (leb rfl) (fun M0 M w0 a hpl hst => ?_)
 replace hst : St M w0 29 [] [glo] a w0 := hst
 refine wp_seq_k (fun K1 hK1 => ?_)
 refine wp_reg mixed [] hst (fun _ => .p rfl (op_assign .k) <| .nil _ _) (by kernel_rfl) (fun n0 a w hst => ?_)
 replace hst : St M w0 29 [] [glo] a w := (hst.pick [])
 refine hK1 _ _ ?_
 try clear hK1 K1
 refine wp_seq_k (fun K2 hK2 => ?_)
 obtain ⟨t4,ht4,h⟩ := bind_some h
 obtain ⟨t5,ht5,h⟩ := bind_some h
 obtain ⟨t6,ht6,h⟩ := bind_some h
 refine wp_reg mixed [] hst (fun _ => .p rfl (op_callF call43 (law10_example_ok ht4) (.cons (.of .k) <| .cons (.of .k) <| .nil)) <| .u [0] rfl rfl ((op_callF call10 (typing_Check_ok ht5) (.cons (.of (.t 0 rfl)) <| .nil)).glo) <| .p rfl (op_callF call9 (law10_plain_ok ht6) (.cons (.of (.t 0 rfl)) <| .nil)) <| .p rfl (op_assign (.t 0 rfl)) <| .nil _ _) (by kernel_rfl) (fun n1 a w hst => ?_)
 replace hst : St M w0 29 [(1,tsl rSref10_Problem t6)] [glo] a w := (hst.pick [3])
 refine hK2 _ _ ?_
 try clear hK2 K2
 refine wp_seq_k (fun K3 hK3 => ?_)
 obtain ⟨t7,ht7,h⟩ := bind_some h
 obtain ⟨t8,ht8,h⟩ := bind_some h
 obtain ⟨t9,ht9,h⟩ := bind_some h
 refine wp_reg mixed [] hst (fun _ => .p rfl (op_callF call43 (law10_example_ok ht7) (.cons (.of .k) <| .cons (.of .k) <| .nil)) <| .u [0] rfl rfl ((op_callF call10 (typing_Check_ok ht8) (.cons (.of (.t 0 rfl)) <| .nil)).glo) <| .p rfl (op_callF call9 (law10_plain_ok ht9) (.cons (.of (.t 0 rfl)) <| .nil)) <| .p rfl (op_assign (.t 0 rfl)) <| .nil _ _) (by kernel_rfl) (fun n2 a w hst => ?_)
 replace hst : St M w0 29 [(2,tsl rSref10_Problem t9),(1,tsl rSref10_Problem t6)] [glo] a w := (hst.pick [3,4])
 refine hK3 _ _ ?_
 try clear hK3 K3
 refine wp_seq_k (fun K4 hK4 => ?_)
 obtain ⟨t10,ht10,h⟩ := bind_some h
 obtain ⟨t11,ht11,h⟩ := bind_some h
 obtain ⟨t12,ht12,h⟩ := bind_some h
 refine wp_reg mixed [] hst (fun _ => .p rfl (op_callF call43 (law10_example_ok ht10) (.cons (.of .k) <| .cons (.of .k) <| .nil)) <| .u [0] rfl rfl ((op_callF call10 (typing_Check_ok ht11) (.cons (.of (.t 0 rfl)) <| .nil)).glo) <| .p rfl (op_callF call9 (law10_plain_ok ht12) (.cons (.of (.t 0 rfl)) <| .nil)) <| .p rfl (op_assign (.t 0 rfl)) <| .nil _ _) (by kernel_rfl) (fun n3 a w hst => ?_)
 replace hst : St M w0 29 [(3,tsl rSref10_Problem t12),(2,tsl rSref10_Problem t9),(1,tsl rSref10_Problem t6)] [glo] a w := (hst.pick [3,4,5])
 refine hK4 _ _ ?_
 try clear hK4 K4
 refine wp_seq_k (fun K5 hK5 => ?_)
 obtain ⟨t16,ht16,h⟩ := bind_some h
 obtain ⟨t27,ht27,h⟩ := bind_some h
 refine wp_reg mixed [] hst (fun _ => .q 2 rfl <| .p (T := rSref10_Problem.ty (Sref10_Problem.mk (1:Int) (2:Int) (-1:Int) (13:Int))) rfl (op_build Tryz.underlying62 pl62 zv62 zc62 (.cons (R := rI) (u := (1:Int)) rfl .k (leb rfl) <| .cons (R := rI) (u := (2:Int)) rfl .k (leb rfl) <| .cons (R := rI) (u := (-1:Int)) rfl .k (leb rfl) <| .cons (R := rI) (u := (13:Int)) rfl .k (leb rfl) <| .nil _)) <| .p rfl (op_buildSl (R := rSref10_Problem) (us := [(Sref10_Problem.mk (1:Int) (2:Int) (-1:Int) (13:Int))]) Tryz.underlying26 tok62 (.cons (.t 0 rfl) <| .nil _) rfl (leb rfl)) <| .p rfl (op_callF call8 (ref10_Same_ok ht16) (.cons (.of (.t 2 rfl)) <| .cons (.of (.t 0 rfl)) <| .nil)) <| .q 0 rfl <| .g rfl rfl (.b 0 rfl) (fun _ => op_move (.t 6 rfl)) <| .g rfl rfl (.b 1 rfl) (fun hc => op_len Tryz.underlying26 (.cond (.t 0 rfl) hc)) <| .g rfl rfl (.b 2 rfl) (fun hc => op_eql (.cond (.t 0 rfl) hc) .k) <| .p rfl (op_and (.t 3 rfl) (fun hp => (.cond (.t 0 rfl) (beqT hp)))) <| .q 0 rfl <| .g rfl rfl (.b 0 rfl) (fun _ => op_move (.t 10 rfl)) <| .g (T := rSref10_Problem.ty (Sref10_Problem.mk (0:Int) (1:Int) (-1:Int) (12:Int))) rfl rfl (.b 1 rfl) (fun _ => op_build Tryz.underlying62 pl62 zv62 zc62 (.cons (R := rI) (u := (1:Int)) rfl .k (leb rfl) <| .cons (R := rI) (u := (-1:Int)) rfl .k (leb rfl) <| .cons (R := rI) (u := (12:Int)) rfl .k (leb rfl) <| .nil _)) <| .g (T := rSref10_Problem.ty (Sref10_Problem.mk (0:Int) (2:Int) (-1:Int) (12:Int))) rfl rfl (.b 2 rfl) (fun _ => op_build Tryz.underlying62 pl62 zv62 zc62 (.cons (R := rI) (u := (2:Int)) rfl .k (leb rfl) <| .cons (R := rI) (u := (-1:Int)) rfl .k (leb rfl) <| .cons (R := rI) (u := (12:Int)) rfl .k (leb rfl) <| .nil _)) <| .g rfl rfl (.b 3 rfl) (fun hc => op_buildSl (R := rSref10_Problem) (us := [(Sref10_Problem.mk (0:Int) (1:Int) (-1:Int) (12:Int)),(Sref10_Problem.mk (0:Int) (2:Int) (-1:Int) (12:Int))]) Tryz.underlying26 tok62 (.cons (.cond (.t 1 rfl) hc) <| .cons (.cond (.t 0 rfl) hc) <| .nil _) rfl (leb rfl)) <| .g rfl rfl (.b 4 rfl) (fun hc => op_callF call8 (ref10_Same_ok (opt_t ht27 hc)) (.cons (.of (.cond (.t 3 rfl) hc)) <| .cons (.of (.cond (.t 0 rfl) hc)) <| .nil)) <| .p rfl (op_and (.t 5 rfl) (fun hp => (.cond (.t 0 rfl) (beqT hp)))) <| .p rfl (op_assign (.t 0 rfl)) <| .nil _ _) (by kernel_rfl) (fun n4 a w hst => ?_)
 replace hst : St M w0 29 [(0,tb ((t16 && ((t9.length : Int) == (0:Int))) && t27))] [glo] a w := (hst.pick [16])
 refine hK5 _ _ ?_
 try clear hK5 K5
 refine wp_ret ?_
 obtain rfl := sj h
 exact ret_st undef [] hpl hst rfl (.tmp (.t 0 rfl) .nil) rfl rfl rfl

/- diorama/dioramalaw10.TypingLeads -/
noncomputable def flaw10_TypingLeads (l_ : (List Int)) (at_ : Int) (how_ : Int) (by_ : Int) (name_ : Str) : Option (Bool) := (flaw10_some l_ at_ how_ by_).bind fun t28 => (tailrec (fun (s5 : Int) => ((if (decide (s5 < (t28.length : Int))) = true then (idx t28 s5).bind fun t37 => (tailrec (fun (s627 : Int × List Str) => ((if ((decide (s627.1 ≤ ((t37).Kinds.length : Int))) && (decide (s627.1 < (8:Int)))) = true then (tailrec (fun (s838 : Int × List Str) => ((if (decide (s838.1 ≤ (11:Int))) = true then (ftyping_Shares t37 s627.1 s838.1).bind fun t60 => (fref10_Shares t37 s627.1 s838.1).bind fun t67 => (ftyping_Up t37 s627.1 s838.1).bind fun t73 => (fref10_Up t37 s627.1 s838.1).bind fun t77 => (if (((t73 != t77) || (t60.1 != t67.1)) || (t60.2 != t67.2)) = true then (some (.inr (.inr false))) else (fref10_Has t37 s627.1 s838.1).bind fun t92 => ((if t92 = true then (idx (t37).Kinds s627.1).bind fun t96 => (idx (t96).Fields s838.1).bind fun t100 => (idx (t37).Kinds s627.1).bind fun t110 => (rm (s838.2.length + [(t100).Name,(t100).Of,(t110).Name].length)).bind fun _ => (some (s838.2 ++ [(t100).Name,(t100).Of,(t110).Name])) else (some s838.2))).bind fun (p892 : List Str) => (some (.inl ((IntKind.i64.wrap (s838.1 + (1:Int))),p892)))) else (some (.inr (.inl s838.2)))) : Option ((Int × List Str) ⊕ ((List Str) ⊕ (Bool))))) ((-1:Int),s627.2)).bind fun (e839 : (List Str) ⊕ (Bool)) => (match e839 with | .inl p879 => (some (.inl ((IntKind.i64.wrap (s627.1 + (1:Int))),p879))) | .inr p881 => (some (.inr (.inr p881)))) else (some (.inr (.inl s627.2)))) : Option ((Int × List Str) ⊕ ((List Str) ⊕ (Bool))))) ((-1:Int),[name_,([] : Str),([97] : Str)])).bind fun (e628 : (List Str) ⊕ (Bool)) => (match e628 with | .inl p768 => (tailrec (fun (s772 : Int) => ((if (decide (s772 < (p768.length : Int))) = true then (idx p768 s772).bind fun t124 => (ftyping_Kind t37 t124).bind fun t126 => (idx p768 s772).bind fun t130 => (fref10_Kind t37 t130).bind fun t132 => (if (t126 != t132) = true then (some (.inr (.inr false))) else (tailrec (fun (s812 : Int) => ((if ((decide (s812 < ((t37).Kinds.length : Int))) && (decide (s812 < (8:Int)))) = true then (idx (t37).Kinds s812).bind fun t148 => (idx p768 s772).bind fun t152 => (ftyping_Field t148 t152).bind fun t154 => (idx (t37).Kinds s812).bind fun t158 => (idx p768 s772).bind fun t162 => (fref10_Field t158 t162).bind fun t164 => (if (t154 != t164) = true then (some (.inr (.inr false))) else (some (.inl (IntKind.i64.wrap (s812 + (1:Int)))))) else (some (.inr (.inl ())))) : Option ((Int) ⊕ ((Unit) ⊕ (Bool))))) (0:Int)).bind fun (e813 : (Unit) ⊕ (Bool)) => (match e813 with | .inl p821 => (some (.inl (IntKind.i64.wrap (s772 + (1:Int))))) | .inr p822 => (some (.inr (.inr p822))))) else (some (.inr (.inl ())))) : Option ((Int) ⊕ ((Unit) ⊕ (Bool))))) (0:Int)).bind fun (e773 : (Unit) ⊕ (Bool)) => (match e773 with | .inl p802 => (some (.inl (IntKind.i64.wrap (s5 + (1:Int))))) | .inr p803 => (some (.inr (.inr p803)))) | .inr p770 => (some (.inr (.inr p770)))) else (some (.inr (.inl ())))) : Option ((Int) ⊕ ((Unit) ⊕ (Bool))))) (0:Int)).bind fun (e6 : (Unit) ⊕ (Bool)) => (match e6 with | .inl p614 => (flaw10_lives).bind fun t166 => (some t166) | .inr p615 => (some p615))
set_option maxRecDepth 100000 in
set_option maxHeartbeats 4000000 in
theorem law10_TypingLeads_ok {l_ : (List Int)} {at_ : Int} {how_ : Int} {by_ : Int} {name_ : Str} {r : Bool} (h : flaw10_TypingLeads l_ at_ how_ by_ name_ = some r) : FnOk Tryz.prog 4 [tsl rI l_,ti at_,ti how_,ti by_,tv (.string (sB name_))] [glo] (fun _ => []) (fun _ => tb r) := by
 unfold flaw10_TypingLeads at h
 refine FnOk.enter Tryz.func4 rfl Tryz.ntmps4 (leb rfl) (fun M0 M w0 a hpl hst => ?_)
 replace hst : St M w0 167 [(0,tsl rI l_),(1,ti at_),(2,ti how_),(3,ti by_),(4,tv (.string (sB name_)))] [glo] a w0 := hst
 refine wp_seq_k (fun K1 hK1 => ?_)
 refine wp_reg mixed [] hst (fun _ => .p rfl (op_assign .k) <| .nil _ _) (by kernel_rfl) (fun n0 a w hst => ?_)
 replace hst : St M w0 167 [(0,tsl rI l_),(1,ti at_),(2,ti how_),(3,ti by_),(4,tv (.string (sB name_)))] [glo] a w := (hst.pick [1,2,3,4,5])
 refine hK1 _ _ ?_
 try clear hK1 K1
 refine wp_seq_k (fun K2 hK2 => ?_)
 obtain ⟨t28,ht28,h⟩ := bind_some h
 refine wp_reg mixed [] hst (fun _ => .q 0 rfl <| .q 2 rfl <| .q 4 rfl <| .q 6 rfl <| .p rfl (op_callF call7 (law10_some_ok ht28) (.cons (.of (.t 3 rfl)) <| .cons (.of (.t 2 rfl)) <| .cons (.of (.t 1 rfl)) <| .cons (.of (.t 0 rfl)) <| .nil)) <| .p rfl (op_assign (.t 0 rfl)) <| .nil _ _) (by kernel_rfl) (fun n1 a w hst => ?_)
 replace hst : St M w0 167 [(11,tsl rSapi_Schema t28),(4,tv (.string (sB name_)))] [glo] a w := (hst.pick [5,10])
 refine hK2 _ _ ?_
 try clear hK2 K2
 refine wp_seq_k (fun K3 hK3 => ?_)
 refine wp_seq_k (fun K4 hK4 => ?_)
 refine wp_reg mixed [] hst (fun _ => .p rfl (op_assign .k) <| .nil _ _) (by kernel_rfl) (fun n2 a w hst => ?_)
 replace hst : St M w0 167 [(12,ti (0:Int)),(11,tsl rSapi_Schema t28),(4,tv (.string (sB name_)))] [glo] a w := (hst.pick [0,1,2])
 refine hK4 _ _ ?_
 try clear hK4 K4
 obtain ⟨e6,he6,h⟩ := bind_some h
 have hJp614 : ∀ (p614 : Unit) a w,(.inl p614) = e6 → St M w0 167 [] [glo] a w → K3 a w := by
  intro p614 a w he hst
  subst he
  simp only at h
  refine hK3 _ _ ?_
  try clear hK3 K3
  refine wp_seq_k (fun K616 hK616 => ?_)
  obtain ⟨t166,ht166,h⟩ := bind_some h
  refine wp_reg mixed [] hst (fun _ => .u [0] rfl rfl ((op_callF call12 (law10_lives_ok ht166) (.nil)).glo) <| .p rfl (op_assign (.t 0 rfl)) <| .nil _ _) (by kernel_rfl) (fun n30 a w hst => ?_)
  replace hst : St M w0 167 [(10,tb t166)] [glo] a w := (hst.pick [1])
  refine hK616 _ _ ?_
  try clear hK616 K616
  refine wp_ret ?_
  obtain rfl := sj h
  exact ret_st undef [] hpl hst rfl (.tmp (.t 0 rfl) .nil) rfl rfl rfl
 have hJp615 : ∀ (p615 : Bool) a w,(.inr p615) = e6 → St M w0 167 [(10,tb p615)] [glo] a w → Ret Tryz.prog Tryz.f4 M0 [glo] w0 (fun _ => []) (fun _ => tb r) .ret a w := by
  intro p615 a w he hst
  subst he
  simp only at h
  obtain rfl := sj h
  exact ret_st undef [] hpl hst rfl (.tmp (.t 0 rfl) .nil) rfl rfl rfl
 refine wp_block ?_
 refine wp_loopK _ (fun (s5 : Int) a w => St M w0 167 [(12,ti s5),(11,tsl rSapi_Schema t28),(4,tv (.string (sB name_)))] [glo] a w) _ _ he6 (hst.pick [0,1,2]) ?_
 clear h
 intro s5 o a w K617 hI h ho hK617
 have hst := hI
 clear hI
 refine wp_seq_k (fun K618 hK618 => ?_)
 refine wp_seq_k (fun K619 hK619 => ?_)
 refine wp_reg mixed [] hst (fun _ => .q 0 rfl <| .q 2 rfl <| .p rfl (op_len Tryz.underlying23 (.t 0 rfl)) <| .p rfl (op_lss (.t 2 rfl) (.t 0 rfl)) <| .nil _ _) (by kernel_rfl) (fun n3 a w hst => ?_)
 replace hst : St M w0 167 [(32,tb (decide (s5 < (t28.length : Int)))),(12,ti s5),(11,tsl rSapi_Schema t28),(4,tv (.string (sB name_)))] [glo] a w := (hst.pick [3,4,5,6])
 refine hK619 _ _ ?_
 try clear hK619 K619
 refine wp_test 0 hst rfl (fun b903 => ?_) (fun b903 => ?_)
 ·replace h := ite_t b903 h
  refine wp_skip ?_
  refine hK618 _ _ ?_
  try clear hK618 K618
  refine wp_seq_k (fun K620 hK620 => ?_)
  refine wp_block ?_
  refine wp_seq_k (fun K621 hK621 => ?_)
  obtain ⟨t37,ht37,h⟩ := bind_some h
  refine wp_reg mixed [v1 4 (fun v0 => box (rSapi_Schema.cs (Sapi_Schema.mk (0:Int) ([] : (List Sapi_Kind)) ([] : (List Sapi_Life)) ([] : (List Sapi_Rule)))) v0),v1 4 (fun v0 => box (rSapi_Schema.cs t37) v0)] hst (fun _ => .q 2 rfl <| .q 2 rfl <| .p rfl (op_index Tryz.underlying23 tok34 (.t 1 rfl) (.t 0 rfl) ht37) <| .p rfl (op_load tok34 (.t 0 rfl)) <| .m [] [1] rfl rfl rfl (op_alloc (R := rSapi_Schema) (a := (Sapi_Schema.mk (0:Int) ([] : (List Sapi_Kind)) ([] : (List Sapi_Life)) ([] : (List Sapi_Rule)))) tok34 zok34) <| .e [] [1] [2] rfl rfl rfl rfl (op_storeB (R := rSapi_Schema) (a := t37) tok34 (.t 0 rfl) (.t 1 rfl) (leb rfl)) <| .nil _ _) (by kernel_rfl) (fun n5 a w hst => ?_)
  replace hst : St M w0 167 [(13,tptr (rSapi_Schema.cs t37)),(12,ti s5),(11,tsl rSapi_Schema t28),(4,tv (.string (sB name_)))] [glo] a w := (((((hst.pick [4,6,7,8]).selA [1,0] rfl).shareB 0 rfl).add 0 rfl (fun _ _ _ h => h.2)).pick [0,3,4,5])
  refine hK621 _ _ ?_
  try clear hK621 K621
  refine wp_seq_k (fun K623 hK623 => ?_)
  refine wp_reg mixed [v1 1 (fun v0 => own rS 9 [name_,([] : Str),([97] : Str)] v0)] hst (fun _ => .q 3 rfl <| .m [] [1] rfl rfl rfl (op_buildSlO (R := rS) (us := [name_,([] : Str),([97] : Str)]) Tryz.underlying38 tok9 (.cons (.t 0 rfl) <| .cons .k <| .cons .k <| .nil _) rfl (leb rfl) (leb rfl)) <| .ud (f := fun v => tv v) 1 rfl [] rfl rfl (op_assign (.t 0 rfl)) <| .nil _ _) (by kernel_rfl) (fun n6 a w hst => ?_)
  replace hst : St M w0 167 [(40,tv (n6 1)),(14,tv (n6 1)),(13,tptr (rSapi_Schema.cs t37)),(12,ti s5),(11,tsl rSapi_Schema t28),(4,tv (.string (sB name_)))] [glo,own rS 9 [name_,([] : Str),([97] : Str)] (n6 1)] a w := (hst.pick [1,2,3,4,5,6])
  refine hK623 _ _ ?_
  try clear hK623 K623
  refine wp_seq_k (fun K625 hK625 => ?_)
  refine wp_seq_k (fun K626 hK626 => ?_)
  refine wp_reg mixed [] hst (fun _ => .p rfl (op_assign .k) <| .nil _ _) (by kernel_rfl) (fun n7 a w hst => ?_)
  replace hst : St M w0 167 [(15,ti (-1:Int)),(40,tv (n6 1)),(14,tv (n6 1)),(13,tptr (rSapi_Schema.cs t37)),(12,ti s5),(11,tsl rSapi_Schema t28),(4,tv (.string (sB name_)))] [glo,own rS 9 [name_,([] : Str),([97] : Str)] (n6 1)] a w := (hst.pick [0,1,2,3,4,5,6])
  refine hK626 _ _ ?_
  try clear hK626 K626
  obtain ⟨e628,he628,h⟩ := bind_some h
  have hJp768 : ∀ (p768 : List Str) (v769 : Value) a w,(.inl p768) = e628 → St M w0 167 [(14,tv v769),(13,tptr (rSapi_Schema.cs t37)),(12,ti s5),(11,tsl rSapi_Schema t28),(4,tv (.string (sB name_)))] [glo,own rS 9 p768 v769] a w → K625 a w := by
   intro p768 v769 a w he hst
   subst he
   simp only at h
   refine hK625 _ _ ?_
   try clear hK625 K625
   refine wp_seq_k (fun K771 hK771 => ?_)
   refine wp_reg mixed [] hst (fun _ => .p rfl (op_assign .k) <| .nil _ _) (by kernel_rfl) (fun n20 a w hst => ?_)
   replace hst : St M w0 167 [(22,ti (0:Int)),(14,tv v769),(13,tptr (rSapi_Schema.cs t37)),(12,ti s5),(11,tsl rSapi_Schema t28),(4,tv (.string (sB name_)))] [glo,own rS 9 p768 v769] a w := (hst.pick [0,1,2,3,4,5])
   refine hK771 _ _ ?_
   try clear hK771 K771
   obtain ⟨e773,he773,h⟩ := bind_some h
   have hJp802 : ∀ (p802 : Unit) a w,(.inl p802) = e773 → St M w0 167 [(12,ti s5),(11,tsl rSapi_Schema t28),(4,tv (.string (sB name_)))] [glo] a w → K620 a w := by
    intro p802 a w he hst
    subst he
    simp only at h
    refine hK620 _ _ ?_
    try clear hK620 K620
    refine wp_reg mixed [] hst (fun _ => .q 0 rfl <| .p rfl (op_add (.t 0 rfl) .k) <| .p rfl (op_assign (.t 0 rfl)) <| .nil _ _) (by kernel_rfl) (fun n4 a w hst => ?_)
    replace hst : St M w0 167 [(12,ti (IntKind.i64.wrap (s5 + (1:Int)))),(11,tsl rSapi_Schema t28),(4,tv (.string (sB name_)))] [glo] a w := (hst.pick [2,3,4])
    exact hK617 _ _ _ (sj h).symm (hst.pick [0,1,2])
   have hJp803 : ∀ (p803 : Bool) a w,(.inr p803) = e773 → St M w0 167 [(10,tb p803)] [glo] a w → Ret Tryz.prog Tryz.f4 M0 [glo] w0 (fun _ => []) (fun _ => tb r) .ret a w := by
    intro p803 a w he hst
    subst he
    simp only at h
    exact hJp615 _ _ _ (ho _ (sj h).symm) (hst.pick [0])
   refine wp_block ?_
   refine wp_loopK _ (fun (s772 : Int) a w => St M w0 167 [(22,ti s772),(14,tv v769),(13,tptr (rSapi_Schema.cs t37)),(12,ti s5),(11,tsl rSapi_Schema t28),(4,tv (.string (sB name_)))] [glo,own rS 9 p768 v769] a w) _ _ he773 (hst.pick [0,1,2,3,4,5]) ?_
   clear h
   intro s772 o a w K804 hI h ho hK804
   have hst := hI
   clear hI
   refine wp_seq_k (fun K805 hK805 => ?_)
   refine wp_seq_k (fun K806 hK806 => ?_)
   refine wp_reg mixed [] hst (fun _ => .q 0 rfl <| .q 2 rfl <| .u [1] rfl rfl (op_lenO Tryz.underlying38 (.t 0 rfl)) <| .p rfl (op_lss (.t 2 rfl) (.t 0 rfl)) <| .nil _ _) (by kernel_rfl) (fun n21 a w hst => ?_)
   replace hst : St M w0 167 [(116,tv v769),(118,tb (decide (s772 < (p768.length : Int)))),(22,ti s772),(14,tv v769),(13,tptr (rSapi_Schema.cs t37)),(12,ti s5),(11,tsl rSapi_Schema t28),(4,tv (.string (sB name_)))] [glo,own rS 9 p768 v769] a w := (hst.pick [1,3,4,5,6,7,8,9])
   refine hK806 _ _ ?_
   try clear hK806 K806
   refine wp_test 1 hst rfl (fun b832 => ?_) (fun b832 => ?_)
   ·replace h := ite_t b832 h
    refine wp_skip ?_
    refine hK805 _ _ ?_
    try clear hK805 K805
    refine wp_seq_k (fun K807 hK807 => ?_)
    refine wp_block ?_
    refine wp_seq_k (fun K808 hK808 => ?_)
    refine wp_seq_k (fun K809 hK809 => ?_)
    obtain ⟨t124,ht124,h⟩ := bind_some h
    obtain ⟨t126,ht126,h⟩ := bind_some h
    obtain ⟨t130,ht130,h⟩ := bind_some h
    obtain ⟨t132,ht132,h⟩ := bind_some h
    refine wp_reg mixed [] hst (fun _ => .p rfl (op_load tok34 (.t 4 rfl)) <| .q 4 rfl <| .q 4 rfl <| .u [1] rfl rfl (op_indexOi Tryz.underlying38 tok9 (.t 1 rfl) (.t 0 rfl) ht124) <| .u [1] rfl rfl (op_loadO tok9 (.t 0 rfl) ht124) <| .p rfl (op_callF call18 (typing_Kind_ok ht126) (.cons (.of (.t 4 rfl)) <| .cons (.of (.t 0 rfl)) <| .nil)) <| .p rfl (op_load tok34 (.t 10 rfl)) <| .q 10 rfl <| .q 10 rfl <| .u [1] rfl rfl (op_indexOi Tryz.underlying38 tok9 (.t 1 rfl) (.t 0 rfl) ht130) <| .u [1] rfl rfl (op_loadO tok9 (.t 0 rfl) ht130) <| .p rfl (op_callF call19 (ref10_Kind_ok ht132) (.cons (.of (.t 4 rfl)) <| .cons (.of (.t 0 rfl)) <| .nil)) <| .p rfl (op_neq (.t 6 rfl) (.t 0 rfl)) <| .nil _ _) (by kernel_rfl) (fun n23 a w hst => ?_)
    replace hst : St M w0 167 [(122,tv v769),(128,tv v769),(133,tb (t126 != t132)),(116,tv v769),(22,ti s772),(14,tv v769),(13,tptr (rSapi_Schema.cs t37)),(12,ti s5),(11,tsl rSapi_Schema t28),(4,tv (.string (sB name_)))] [glo,own rS 9 p768 v769] a w := (hst.pick [1,7,12,13,15,16,17,18,19,20])
    refine hK809 _ _ ?_
    try clear hK809 K809
    refine wp_test 2 hst rfl (fun b831 => ?_) (fun b831 => ?_)
    ·replace h := ite_t b831 h
     refine wp_seq_k (fun K810 hK810 => ?_)
     refine wp_reg mixed [] hst (fun _ => .p rfl (op_assign .k) <| .nil _ _) (by kernel_rfl) (fun n24 a w hst => ?_)
     replace hst : St M w0 167 [(10,tb false),(122,tv v769),(128,tv v769),(116,tv v769),(14,tv v769)] [glo,own rS 9 p768 v769] a w := (hst.pick [0,1,2,4,6])
     refine hK810 _ _ ?_
     try clear hK810 K810
     refine wp_ret ?_
     exact hJp803 _ _ _ (ho _ (sj h).symm) ((hst.pick [0]).selA [0] rfl)
    ·replace h := ite_f b831 h
     refine wp_skip ?_
     refine hK808 _ _ ?_
     try clear hK808 K808
     refine wp_seq_k (fun K811 hK811 => ?_)
     refine wp_reg mixed [] hst (fun _ => .p rfl (op_assign .k) <| .nil _ _) (by kernel_rfl) (fun n25 a w hst => ?_)
     replace hst : St M w0 167 [(23,ti (0:Int)),(122,tv v769),(128,tv v769),(116,tv v769),(22,ti s772),(14,tv v769),(13,tptr (rSapi_Schema.cs t37)),(12,ti s5),(11,tsl rSapi_Schema t28),(4,tv (.string (sB name_)))] [glo,own rS 9 p768 v769] a w := (hst.pick [0,1,2,4,5,6,7,8,9,10])
     refine hK811 _ _ ?_
     try clear hK811 K811
     obtain ⟨e813,he813,h⟩ := bind_some h
     have hJp821 : ∀ (p821 : Unit) a w,(.inl p821) = e813 → St M w0 167 [(22,ti s772),(14,tv v769),(13,tptr (rSapi_Schema.cs t37)),(12,ti s5),(11,tsl rSapi_Schema t28),(4,tv (.string (sB name_)))] [glo,own rS 9 p768 v769] a w → K807 a w := by
      intro p821 a w he hst
      subst he
      simp only at h
      refine hK807 _ _ ?_
      try clear hK807 K807
      refine wp_reg mixed [] hst (fun _ => .q 0 rfl <| .p rfl (op_add (.t 0 rfl) .k) <| .p rfl (op_assign (.t 0 rfl)) <| .nil _ _) (by kernel_rfl) (fun n22 a w hst => ?_)
      replace hst : St M w0 167 [(22,ti (IntKind.i64.wrap (s772 + (1:Int)))),(14,tv v769),(13,tptr (rSapi_Schema.cs t37)),(12,ti s5),(11,tsl rSapi_Schema t28),(4,tv (.string (sB name_)))] [glo,own rS 9 p768 v769] a w := (hst.pick [2,3,4,5,6,7])
      exact hK804 _ _ _ (sj h).symm (hst.pick [0,1,2,3,4,5])
     have hJp822 : ∀ (p822 : Bool) a w,(.inr p822) = e813 → St M w0 167 [(10,tb p822)] [glo] a w → Ret Tryz.prog Tryz.f4 M0 [glo] w0 (fun _ => []) (fun _ => tb r) .ret a w := by
      intro p822 a w he hst
      subst he
      simp only at h
      exact hJp803 _ _ _ (ho _ (sj h).symm) (hst.pick [0])
     refine wp_block ?_
     refine wp_loopK _ (fun (s812 : Int) a w => St M w0 167 [(23,ti s812),(22,ti s772),(14,tv v769),(13,tptr (rSapi_Schema.cs t37)),(12,ti s5),(11,tsl rSapi_Schema t28),(4,tv (.string (sB name_)))] [glo,own rS 9 p768 v769] a w) _ _ he813 (hst.pick [0,4,5,6,7,8,9]) ?_
     clear h
     intro s812 o a w K823 hI h ho hK823
     have hst := hI
     clear hI
     refine wp_seq_k (fun K824 hK824 => ?_)
     refine wp_seq_k (fun K825 hK825 => ?_)
     refine wp_reg mixed [] hst (fun _ => .q 0 rfl <| .p rfl (op_field fld34_1 (.t 4 rfl)) <| .p rfl (op_loadT (R := (rSl rSapi_Kind)) (u := (t37).Kinds) tok30 (.t 0 rfl) rfl) <| .p rfl (op_len Tryz.underlying30 (.t 0 rfl)) <| .p rfl (op_lss (.t 3 rfl) (.t 0 rfl)) <| .q 0 rfl <| .g rfl rfl (.b 0 rfl) (fun _ => op_move (.t 6 rfl)) <| .g rfl rfl (.b 1 rfl) (fun hc => op_lss (.cond (.t 0 rfl) hc) .k) <| .p rfl (op_and (.t 2 rfl) (fun hp => (.cond (.t 0 rfl) (beqT hp)))) <| .nil _ _) (by kernel_rfl) (fun n26 a w hst => ?_)
     replace hst : St M w0 167 [(142,tb ((decide (s812 < ((t37).Kinds.length : Int))) && (decide (s812 < (8:Int))))),(23,ti s812),(22,ti s772),(14,tv v769),(13,tptr (rSapi_Schema.cs t37)),(12,ti s5),(11,tsl rSapi_Schema t28),(4,tv (.string (sB name_)))] [glo,own rS 9 p768 v769] a w := (hst.pick [8,9,10,11,12,13,14,15])
     refine hK825 _ _ ?_
     try clear hK825 K825
     refine wp_test 0 hst rfl (fun b830 => ?_) (fun b830 => ?_)
     ·replace h := ite_t b830 h
      refine wp_skip ?_
      refine hK824 _ _ ?_
      try clear hK824 K824
      refine wp_seq_k (fun K826 hK826 => ?_)
      refine wp_block ?_
      refine wp_seq_k (fun K827 hK827 => ?_)
      obtain ⟨t148,ht148,h⟩ := bind_some h
      obtain ⟨t152,ht152,h⟩ := bind_some h
      obtain ⟨t154,ht154,h⟩ := bind_some h
      obtain ⟨t158,ht158,h⟩ := bind_some h
      obtain ⟨t162,ht162,h⟩ := bind_some h
      obtain ⟨t164,ht164,h⟩ := bind_some h
      refine wp_reg mixed [] hst (fun _ => .p rfl (op_field fld34_1 (.t 4 rfl)) <| .p rfl (op_loadT (R := (rSl rSapi_Kind)) (u := (t37).Kinds) tok30 (.t 0 rfl) rfl) <| .q 3 rfl <| .p rfl (op_index Tryz.underlying30 tok47 (.t 1 rfl) (.t 0 rfl) ht148) <| .p rfl (op_load tok47 (.t 0 rfl)) <| .q 8 rfl <| .q 8 rfl <| .u [1] rfl rfl (op_indexOi Tryz.underlying38 tok9 (.t 1 rfl) (.t 0 rfl) ht152) <| .u [1] rfl rfl (op_loadO tok9 (.t 0 rfl) ht152) <| .p rfl (op_callF call20 (typing_Field_ok ht154) (.cons (.of (.t 4 rfl)) <| .cons (.of (.t 0 rfl)) <| .nil)) <| .p rfl (op_field fld34_1 (.t 14 rfl)) <| .p rfl (op_loadT (R := (rSl rSapi_Kind)) (u := (t37).Kinds) tok30 (.t 0 rfl) rfl) <| .q 13 rfl <| .p rfl (op_index Tryz.underlying30 tok47 (.t 1 rfl) (.t 0 rfl) ht158) <| .p rfl (op_load tok47 (.t 0 rfl)) <| .q 18 rfl <| .q 18 rfl <| .u [1] rfl rfl (op_indexOi Tryz.underlying38 tok9 (.t 1 rfl) (.t 0 rfl) ht162) <| .u [1] rfl rfl (op_loadO tok9 (.t 0 rfl) ht162) <| .p rfl (op_callF call21 (ref10_Field_ok ht164) (.cons (.of (.t 4 rfl)) <| .cons (.of (.t 0 rfl)) <| .nil)) <| .p rfl (op_neq (.t 10 rfl) (.t 0 rfl)) <| .nil _ _) (by kernel_rfl) (fun n28 a w hst => ?_)
      replace hst : St M w0 167 [(150,tv v769),(160,tv v769),(165,tb (t154 != t164)),(23,ti s812),(22,ti s772),(14,tv v769),(13,tptr (rSapi_Schema.cs t37)),(12,ti s5),(11,tsl rSapi_Schema t28),(4,tv (.string (sB name_)))] [glo,own rS 9 p768 v769] a w := (hst.pick [5,15,20,22,23,24,25,26,27,28])
      refine hK827 _ _ ?_
      try clear hK827 K827
      refine wp_test 2 hst rfl (fun b829 => ?_) (fun b829 => ?_)
      ·replace h := ite_t b829 h
       refine wp_seq_k (fun K828 hK828 => ?_)
       refine wp_reg mixed [] hst (fun _ => .p rfl (op_assign .k) <| .nil _ _) (by kernel_rfl) (fun n29 a w hst => ?_)
       replace hst : St M w0 167 [(10,tb false),(150,tv v769),(160,tv v769),(14,tv v769)] [glo,own rS 9 p768 v769] a w := (hst.pick [0,1,2,6])
       refine hK828 _ _ ?_
       try clear hK828 K828
       refine wp_ret ?_
       exact hJp822 _ _ _ (ho _ (sj h).symm) ((hst.pick [0]).selA [0] rfl)
      ·replace h := ite_f b829 h
       refine wp_skip ?_
       refine hK826 _ _ ?_
       try clear hK826 K826
       refine wp_reg mixed [] hst (fun _ => .q 3 rfl <| .p rfl (op_add (.t 0 rfl) .k) <| .p rfl (op_assign (.t 0 rfl)) <| .nil _ _) (by kernel_rfl) (fun n27 a w hst => ?_)
       replace hst : St M w0 167 [(23,ti (IntKind.i64.wrap (s812 + (1:Int)))),(150,tv v769),(160,tv v769),(22,ti s772),(14,tv v769),(13,tptr (rSapi_Schema.cs t37)),(12,ti s5),(11,tsl rSapi_Schema t28),(4,tv (.string (sB name_)))] [glo,own rS 9 p768 v769] a w := (hst.pick [2,3,4,6,7,8,9,10,11])
       exact hK823 _ _ _ (sj h).symm (hst.pick [0,3,4,5,6,7,8])
     ·replace h := ite_f b830 h
      refine wp_exit ?_
      exact hJp821 _ _ _ (ho _ (sj h).symm) (hst.pick [2,3,4,5,6,7])
   ·replace h := ite_f b832 h
    refine wp_exit ?_
    exact hJp802 _ _ _ (ho _ (sj h).symm) ((hst.pick [5,6,7]).selA [0] rfl)
  have hJp770 : ∀ (p770 : Bool) a w,(.inr p770) = e628 → St M w0 167 [(10,tb p770)] [glo] a w → Ret Tryz.prog Tryz.f4 M0 [glo] w0 (fun _ => []) (fun _ => tb r) .ret a w := by
   intro p770 a w he hst
   subst he
   simp only at h
   exact hJp615 _ _ _ (ho _ (sj h).symm) (hst.pick [0])
  refine wp_block ?_
  refine wp_loopK _ (fun (s627 : Int × List Str) a w => ∃ v698 : Value,St M w0 167 [(15,ti s627.1),(14,tv v698),(13,tptr (rSapi_Schema.cs t37)),(12,ti s5),(11,tsl rSapi_Schema t28),(4,tv (.string (sB name_)))] [glo,own rS 9 s627.2 v698] a w) _ _ he628 ⟨(n6 1),hst.pick [0,2,3,4,5,6]⟩ ?_
  clear h
  intro s627 o a w K833 hI h ho hK833
  obtain ⟨v698,hst⟩ := hI
  refine wp_seq_k (fun K834 hK834 => ?_)
  refine wp_seq_k (fun K835 hK835 => ?_)
  refine wp_reg mixed [] hst (fun _ => .q 0 rfl <| .p rfl (op_field fld34_1 (.t 3 rfl)) <| .p rfl (op_loadT (R := (rSl rSapi_Kind)) (u := (t37).Kinds) tok30 (.t 0 rfl) rfl) <| .p rfl (op_len Tryz.underlying30 (.t 0 rfl)) <| .p rfl (op_leq (.t 3 rfl) (.t 0 rfl)) <| .q 0 rfl <| .g rfl rfl (.b 0 rfl) (fun _ => op_move (.t 6 rfl)) <| .g rfl rfl (.b 1 rfl) (fun hc => op_lss (.cond (.t 0 rfl) hc) .k) <| .p rfl (op_and (.t 2 rfl) (fun hp => (.cond (.t 0 rfl) (beqT hp)))) <| .nil _ _) (by kernel_rfl) (fun n8 a w hst => ?_)
  replace hst : St M w0 167 [(49,tb ((decide (s627.1 ≤ ((t37).Kinds.length : Int))) && (decide (s627.1 < (8:Int))))),(15,ti s627.1),(14,tv v698),(13,tptr (rSapi_Schema.cs t37)),(12,ti s5),(11,tsl rSapi_Schema t28),(4,tv (.string (sB name_)))] [glo,own rS 9 s627.2 v698] a w := (hst.pick [8,9,10,11,12,13,14])
  refine hK835 _ _ ?_
  try clear hK835 K835
  refine wp_test 0 hst rfl (fun b902 => ?_) (fun b902 => ?_)
  ·replace h := ite_t b902 h
   refine wp_skip ?_
   refine hK834 _ _ ?_
   try clear hK834 K834
   refine wp_seq_k (fun K836 hK836 => ?_)
   refine wp_block ?_
   refine wp_seq_k (fun K837 hK837 => ?_)
   refine wp_reg mixed [] hst (fun _ => .p rfl (op_assign .k) <| .nil _ _) (by kernel_rfl) (fun n10 a w hst => ?_)
   replace hst : St M w0 167 [(16,ti (-1:Int)),(15,ti s627.1),(14,tv v698),(13,tptr (rSapi_Schema.cs t37)),(12,ti s5),(11,tsl rSapi_Schema t28),(4,tv (.string (sB name_)))] [glo,own rS 9 s627.2 v698] a w := (hst.pick [0,2,3,4,5,6,7])
   refine hK837 _ _ ?_
   try clear hK837 K837
   obtain ⟨e839,he839,h⟩ := bind_some h
   have hJp879 : ∀ (p879 : List Str) (v880 : Value) a w,(.inl p879) = e839 → St M w0 167 [(15,ti s627.1),(14,tv v880),(13,tptr (rSapi_Schema.cs t37)),(12,ti s5),(11,tsl rSapi_Schema t28),(4,tv (.string (sB name_)))] [glo,own rS 9 p879 v880] a w → K836 a w := by
    intro p879 v880 a w he hst
    subst he
    simp only at h
    refine hK836 _ _ ?_
    try clear hK836 K836
    refine wp_reg mixed [] hst (fun _ => .q 0 rfl <| .p rfl (op_add (.t 0 rfl) .k) <| .p rfl (op_assign (.t 0 rfl)) <| .nil _ _) (by kernel_rfl) (fun n9 a w hst => ?_)
    replace hst : St M w0 167 [(15,ti (IntKind.i64.wrap (s627.1 + (1:Int)))),(14,tv v880),(13,tptr (rSapi_Schema.cs t37)),(12,ti s5),(11,tsl rSapi_Schema t28),(4,tv (.string (sB name_)))] [glo,own rS 9 p879 v880] a w := (hst.pick [2,3,4,5,6,7])
    exact hK833 _ _ _ (sj h).symm ⟨v880,hst.pick [0,1,2,3,4,5]⟩
   have hJp881 : ∀ (p881 : Bool) a w,(.inr p881) = e839 → St M w0 167 [(10,tb p881)] [glo] a w → Ret Tryz.prog Tryz.f4 M0 [glo] w0 (fun _ => []) (fun _ => tb r) .ret a w := by
    intro p881 a w he hst
    subst he
    simp only at h
    exact hJp770 _ _ _ (ho _ (sj h).symm) (hst.pick [0])
   refine wp_block ?_
   refine wp_loopK _ (fun (s838 : Int × List Str) a w => ∃ v859 : Value,St M w0 167 [(16,ti s838.1),(15,ti s627.1),(14,tv v859),(13,tptr (rSapi_Schema.cs t37)),(12,ti s5),(11,tsl rSapi_Schema t28),(4,tv (.string (sB name_)))] [glo,own rS 9 s838.2 v859] a w) _ _ he839 ⟨v698,hst.pick [0,1,2,3,4,5,6]⟩ ?_
   clear h
   intro s838 o a w K882 hI h ho hK882
   obtain ⟨v859,hst⟩ := hI
   refine wp_seq_k (fun K883 hK883 => ?_)
   refine wp_seq_k (fun K884 hK884 => ?_)
   refine wp_reg mixed [] hst (fun _ => .q 0 rfl <| .p rfl (op_leq (.t 0 rfl) .k) <| .nil _ _) (by kernel_rfl) (fun n11 a w hst => ?_)
   replace hst : St M w0 167 [(53,tb (decide (s838.1 ≤ (11:Int)))),(16,ti s838.1),(15,ti s627.1),(14,tv v859),(13,tptr (rSapi_Schema.cs t37)),(12,ti s5),(11,tsl rSapi_Schema t28),(4,tv (.string (sB name_)))] [glo,own rS 9 s838.2 v859] a w := (hst.pick [1,2,3,4,5,6,7,8])
   refine hK884 _ _ ?_
   try clear hK884 K884
   refine wp_test 0 hst rfl (fun b901 => ?_) (fun b901 => ?_)
   ·replace h := ite_t b901 h
    refine wp_skip ?_
    refine hK883 _ _ ?_
    try clear hK883 K883
    refine wp_seq_k (fun K885 hK885 => ?_)
    refine wp_block ?_
    refine wp_seq_k (fun K886 hK886 => ?_)
    obtain ⟨t60,ht60,h⟩ := bind_some h
    refine wp_reg mixed [] hst (fun _ => .p rfl (op_load tok34 (.t 4 rfl)) <| .q 3 rfl <| .q 3 rfl <| .p rfl (op_callF call13 (typing_Shares_ok ht60) (.cons (.of (.t 2 rfl)) <| .cons (.of (.t 1 rfl)) <| .cons (.of (.t 0 rfl)) <| .nil)) <| .q 0 rfl <| .p rfl (op_extract (.t 0 rfl) rfl) <| .p rfl (op_extract (.t 1 rfl) rfl) <| .p rfl (op_assign (.t 1 rfl)) <| .p rfl (op_assign (.t 1 rfl)) <| .nil _ _) (by kernel_rfl) (fun n13 a w hst => ?_)
    replace hst : St M w0 167 [(17,ti t60.1),(18,ti t60.2),(16,ti s838.1),(15,ti s627.1),(14,tv v859),(13,tptr (rSapi_Schema.cs t37)),(12,ti s5),(11,tsl rSapi_Schema t28),(4,tv (.string (sB name_)))] [glo,own rS 9 s838.2 v859] a w := (hst.pick [7,8,10,11,12,13,14,15,16])
    refine hK886 _ _ ?_
    try clear hK886 K886
    refine wp_seq_k (fun K887 hK887 => ?_)
    obtain ⟨t67,ht67,h⟩ := bind_some h
    refine wp_reg mixed [] hst (fun _ => .p rfl (op_load tok34 (.t 5 rfl)) <| .q 4 rfl <| .q 4 rfl <| .p rfl (op_callF call14 (ref10_Shares_ok ht67) (.cons (.of (.t 2 rfl)) <| .cons (.of (.t 1 rfl)) <| .cons (.of (.t 0 rfl)) <| .nil)) <| .q 0 rfl <| .p rfl (op_extract (.t 0 rfl) rfl) <| .p rfl (op_extract (.t 1 rfl) rfl) <| .p rfl (op_assign (.t 1 rfl)) <| .p rfl (op_assign (.t 1 rfl)) <| .nil _ _) (by kernel_rfl) (fun n14 a w hst => ?_)
    replace hst : St M w0 167 [(19,ti t67.1),(20,ti t67.2),(17,ti t60.1),(18,ti t60.2),(16,ti s838.1),(15,ti s627.1),(14,tv v859),(13,tptr (rSapi_Schema.cs t37)),(12,ti s5),(11,tsl rSapi_Schema t28),(4,tv (.string (sB name_)))] [glo,own rS 9 s838.2 v859] a w := (hst.pick [7,8,9,10,11,12,13,14,15,16,17])
    refine hK887 _ _ ?_
    try clear hK887 K887
    refine wp_seq_k (fun K888 hK888 => ?_)
    refine wp_seq_k (fun K889 hK889 => ?_)
    obtain ⟨t73,ht73,h⟩ := bind_some h
    obtain ⟨t77,ht77,h⟩ := bind_some h
    refine wp_reg mixed [] hst (fun _ => .p rfl (op_load tok34 (.t 7 rfl)) <| .q 6 rfl <| .q 6 rfl <| .p rfl (op_callF call15 (typing_Up_ok ht73) (.cons (.of (.t 2 rfl)) <| .cons (.of (.t 1 rfl)) <| .cons (.of (.t 0 rfl)) <| .nil)) <| .p rfl (op_load tok34 (.t 11 rfl)) <| .q 10 rfl <| .q 10 rfl <| .p rfl (op_callF call16 (ref10_Up_ok ht77) (.cons (.of (.t 2 rfl)) <| .cons (.of (.t 1 rfl)) <| .cons (.of (.t 0 rfl)) <| .nil)) <| .p rfl (op_neq (.t 4 rfl) (.t 0 rfl)) <| .q 0 rfl <| .g rfl rfl (.b 0 rfl) (fun _ => op_move (.t 12 rfl)) <| .g rfl rfl (.b 1 rfl) (fun _ => op_move (.t 11 rfl)) <| .g rfl rfl (.b 2 rfl) (fun hc => op_neq (.cond (.t 1 rfl) hc) (.cond (.t 0 rfl) hc)) <| .p rfl (op_or (.t 3 rfl) (fun hp => (.cond (.t 0 rfl) (beqF hp)))) <| .q 0 rfl <| .g rfl rfl (.b 0 rfl) (fun _ => op_move (.t 18 rfl)) <| .g rfl rfl (.b 1 rfl) (fun _ => op_move (.t 17 rfl)) <| .g rfl rfl (.b 2 rfl) (fun hc => op_neq (.cond (.t 1 rfl) hc) (.cond (.t 0 rfl) hc)) <| .p rfl (op_or (.t 3 rfl) (fun hp => (.cond (.t 0 rfl) (beqF hp)))) <| .nil _ _) (by kernel_rfl) (fun n15 a w hst => ?_)
    replace hst : St M w0 167 [(88,tb (((t73 != t77) || (t60.1 != t67.1)) || (t60.2 != t67.2))),(16,ti s838.1),(15,ti s627.1),(14,tv v859),(13,tptr (rSapi_Schema.cs t37)),(12,ti s5),(11,tsl rSapi_Schema t28),(4,tv (.string (sB name_)))] [glo,own rS 9 s838.2 v859] a w := (hst.pick [18,23,24,25,26,27,28,29])
    refine hK889 _ _ ?_
    try clear hK889 K889
    refine wp_test 0 hst rfl (fun b900 => ?_) (fun b900 => ?_)
    ·replace h := ite_t b900 h
     refine wp_seq_k (fun K890 hK890 => ?_)
     refine wp_reg mixed [] hst (fun _ => .p rfl (op_assign .k) <| .nil _ _) (by kernel_rfl) (fun n16 a w hst => ?_)
     replace hst : St M w0 167 [(10,tb false),(14,tv v859)] [glo,own rS 9 s838.2 v859] a w := (hst.pick [0,4])
     refine hK890 _ _ ?_
     try clear hK890 K890
     refine wp_ret ?_
     exact hJp881 _ _ _ (ho _ (sj h).symm) ((hst.pick [0]).selA [0] rfl)
    ·replace h := ite_f b900 h
     refine wp_skip ?_
     refine hK888 _ _ ?_
     try clear hK888 K888
     refine wp_seq_k (fun K891 hK891 => ?_)
     obtain ⟨t92,ht92,h⟩ := bind_some h
     refine wp_reg mixed [] hst (fun _ => .p rfl (op_load tok34 (.t 4 rfl)) <| .q 3 rfl <| .q 3 rfl <| .p rfl (op_callF call17 (ref10_Has_ok ht92) (.cons (.of (.t 2 rfl)) <| .cons (.of (.t 1 rfl)) <| .cons (.of (.t 0 rfl)) <| .nil)) <| .nil _ _) (by kernel_rfl) (fun n17 a w hst => ?_)
     replace hst : St M w0 167 [(92,tb t92),(16,ti s838.1),(15,ti s627.1),(14,tv v859),(13,tptr (rSapi_Schema.cs t37)),(12,ti s5),(11,tsl rSapi_Schema t28),(4,tv (.string (sB name_)))] [glo,own rS 9 s838.2 v859] a w := (hst.pick [3,5,6,7,8,9,10,11])
     refine hK891 _ _ ?_
     try clear hK891 K891
     obtain ⟨p892,hp892,h⟩ := bind_some h
     have hJp892 : ∀ (v896 : Value) a w,St M w0 167 [(14,tv v896),(16,ti s838.1),(15,ti s627.1),(13,tptr (rSapi_Schema.cs t37)),(12,ti s5),(11,tsl rSapi_Schema t28),(4,tv (.string (sB name_)))] [glo,own rS 9 p892 v896] a w → K885 a w := by
      intro v896 a w hst
      refine hK885 _ _ ?_
      try clear hK885 K885
      refine wp_reg mixed [] hst (fun _ => .q 1 rfl <| .p rfl (op_add (.t 0 rfl) .k) <| .p rfl (op_assign (.t 0 rfl)) <| .nil _ _) (by kernel_rfl) (fun n12 a w hst => ?_)
      replace hst : St M w0 167 [(16,ti (IntKind.i64.wrap (s838.1 + (1:Int)))),(14,tv v896),(15,ti s627.1),(13,tptr (rSapi_Schema.cs t37)),(12,ti s5),(11,tsl rSapi_Schema t28),(4,tv (.string (sB name_)))] [glo,own rS 9 p892 v896] a w := (hst.pick [2,3,4,5,6,7,8])
      exact hK882 _ _ _ (sj h).symm ⟨v896,hst.pick [0,2,1,3,4,5,6]⟩
     replace h := hp892
     clear hp892
     refine wp_test 0 hst rfl (fun b899 => ?_) (fun b899 => ?_)
     ·replace h := ite_t b899 h
      refine wp_seq_k (fun K897 hK897 => ?_)
      obtain ⟨t96,ht96,h⟩ := bind_some h
      obtain ⟨t100,ht100,h⟩ := bind_some h
      refine wp_reg mixed [v1 9 (fun v0 => box (rSapi_Field.cs (Sapi_Field.mk ([] : Str) ([] : Str) ([] : Str) (0:Int) (0:Int) (0:Int) ([] : (List Str)) ([] : (List Int)))) v0),v1 9 (fun v0 => box (rSapi_Field.cs t100) v0)] hst (fun _ => .p rfl (op_field fld34_1 (.t 4 rfl)) <| .p rfl (op_loadT (R := (rSl rSapi_Kind)) (u := (t37).Kinds) tok30 (.t 0 rfl) rfl) <| .q 4 rfl <| .p rfl (op_index Tryz.underlying30 tok47 (.t 1 rfl) (.t 0 rfl) ht96) <| .p rfl (op_field fld47_3 (.t 0 rfl)) <| .p rfl (op_loadT (R := (rSl rSapi_Field)) (u := (t96).Fields) tok45 (.t 0 rfl) rfl) <| .q 7 rfl <| .p rfl (op_index Tryz.underlying45 tok44 (.t 1 rfl) (.t 0 rfl) ht100) <| .p rfl (op_load tok44 (.t 0 rfl)) <| .m [] [2] rfl rfl rfl (op_alloc (R := rSapi_Field) (a := (Sapi_Field.mk ([] : Str) ([] : Str) ([] : Str) (0:Int) (0:Int) (0:Int) ([] : (List Str)) ([] : (List Int)))) tok44 zok44) <| .e [] [2] [3] rfl rfl rfl rfl (op_storeB (R := rSapi_Field) (a := t100) tok44 (.t 0 rfl) (.t 1 rfl) (leb rfl)) <| .nil _ _) (by kernel_rfl) (fun n18 a w hst => ?_)
      replace hst : St M w0 167 [(21,tptr (rSapi_Field.cs t100)),(16,ti s838.1),(15,ti s627.1),(14,tv v859),(13,tptr (rSapi_Schema.cs t37)),(12,ti s5),(11,tsl rSapi_Schema t28),(4,tv (.string (sB name_)))] [glo,own rS 9 s838.2 v859] a w := (((((hst.pick [9,11,12,13,14,15,16,17]).selA [2,0,1] rfl).shareB 0 rfl).add 0 rfl (fun _ _ _ h => h.2)).pick [0,3,4,5,6,7,8,9])
      refine hK897 _ _ ?_
      try clear hK897 K897
      obtain ⟨t110,ht110,h⟩ := bind_some h
      obtain ⟨u114,hu114,h⟩ := bind_some h
      refine wp_reg mixed [v1 12 (fun v0 => own rS 9 (s838.2 ++ [(t100).Name,(t100).Of,(t110).Name]) v0)] hst (fun _ => .q 3 rfl <| .p rfl (op_field fld44_0 (.t 1 rfl)) <| .p rfl (op_loadT (R := rS) (u := (t100).Name) tok9 (.t 0 rfl) rfl) <| .p rfl (op_field fld44_1 (.t 3 rfl)) <| .p rfl (op_loadT (R := rS) (u := (t100).Of) tok9 (.t 0 rfl) rfl) <| .p rfl (op_field fld34_1 (.t 9 rfl)) <| .p rfl (op_loadT (R := (rSl rSapi_Kind)) (u := (t37).Kinds) tok30 (.t 0 rfl) rfl) <| .q 9 rfl <| .p rfl (op_index Tryz.underlying30 tok47 (.t 1 rfl) (.t 0 rfl) ht110) <| .p rfl (op_field fld47_0 (.t 0 rfl)) <| .p rfl (op_loadT (R := rS) (u := (t110).Name) tok9 (.t 0 rfl) rfl) <| .p rfl (op_buildSl (R := rS) (us := [(t100).Name,(t100).Of,(t110).Name]) Tryz.underlying38 tok9 (.cons (.t 8 rfl) <| .cons (.t 6 rfl) <| .cons (.t 0 rfl) <| .nil _) rfl (leb rfl)) <| .e [] [1] [2] rfl rfl rfl rfl (op_append (R := rS) Tryz.underlying38 tok9 (leb rfl) (.t 11 rfl) (.t 0 rfl) hu114) <| .ud (f := fun v => tv v) 12 rfl [] rfl rfl (op_assign (.t 0 rfl)) <| .nil _ _) (by kernel_rfl) (fun n19 a w hst => ?_)
      replace hst : St M w0 167 [(114,tv (n19 12)),(14,tv (n19 12)),(16,ti s838.1),(15,ti s627.1),(13,tptr (rSapi_Schema.cs t37)),(12,ti s5),(11,tsl rSapi_Schema t28),(4,tv (.string (sB name_)))] [glo,own rS 9 (s838.2 ++ [(t100).Name,(t100).Of,(t110).Name]) (n19 12)] a w := (hst.pick [12,13,15,16,17,18,19,20])
      obtain rfl := sj h
      exact hJp892 (n19 12) _ _ (hst.pick [1,2,3,4,5,6,7])
     ·replace h := ite_f b899 h
      refine wp_skip ?_
      obtain rfl := sj h
      exact hJp892 v859 _ _ (hst.pick [3,1,2,4,5,6,7])
   ·replace h := ite_f b901 h
    refine wp_exit ?_
    exact hJp879 _ v859 _ _ (ho _ (sj h).symm) (hst.pick [2,3,4,5,6,7])
  ·replace h := ite_f b902 h
   refine wp_exit ?_
   exact hJp768 _ v698 _ _ (ho _ (sj h).symm) (hst.pick [2,3,4,5,6])
 ·replace h := ite_f b903 h
  refine wp_exit ?_
  exact hJp614 _ _ _ (ho _ (sj h).symm) (hst.pick [])

end Go.Proofs.YthdfmpocknmleaaGreatDoor
