/- Go functions as Lean functions, and the proofs that they compute them, written by a program. No condition. -/
import Derived.Test.YthdfmpocknmleaaGreatDoorGenF
namespace Go.Proofs.YthdfmpocknmleaaGreatDoor
open Go.Sim

/- diorama/ratio.gcd$1 -/
noncomputable def fratio_gcdq1S (self : Int → Int → Option (Int)) (a_ : Int) (b_ : Int) : Option (Int) := (if (b_ == (0:Int)) = true then (some a_) else (nz b_).bind fun _ => (self b_ (Int.tmod a_ b_)).bind fun t14 => (some t14))
set_option maxRecDepth 100000 in
set_option maxHeartbeats 4000000 in
theorem ratio_gcdq1_okS {q : Value} {self : Int → Int → Option (Int)} (hself : ∀ (a_ : Int) (b_ : Int) (r : Int),self a_ b_ = some r → FnOk Tryz.prog 165 [tv (.int .u64 a_),tv (.int .u64 b_),tself 165 q] [] (fun _ => []) (fun _ => tv (.int .u64 r))) {a_ : Int} {b_ : Int} {r : Int} (h : fratio_gcdq1S self a_ b_ = some r) : FnOk Tryz.prog 165 [tv (.int .u64 a_),tv (.int .u64 b_),tself 165 q] [] (fun _ => []) (fun _ => tv (.int .u64 r)) := by
 unfold fratio_gcdq1S at h
 refine FnOk.enter Tryz.func165 rfl Tryz.ntmps165 (leb rfl) (fun M0 M w0 a hpl hst => ?_)
 replace hst : St M w0 15 [(0,tv (.int .u64 a_)),(1,tv (.int .u64 b_)),(2,tself 165 q)] [] a w0 := hst
 refine sr mixed [] hst (fun _ => .o (op_assign .k) <| .n) fun n0 a w hst => ?_
 replace hst := hst.to [1,2,3] [_,_,_] [] rfl rfl
 refine wp_seq_k (fun K2 hK2 => ?_)
 refine sr mixed [] hst (fun _ => .q 1 rfl <| .o (op_eql z0 .k) <| .n) fun n1 a w hst => ?_
 replace hst := hst.to [1,2,3,4] [_,_,_,_] [] rfl rfl
 refine wt hst (fun b6 => ?_) (fun b6 => ?_)
 ·replace h := ite_t b6 h
  refine sr mixed [] hst (fun _ => .q 1 rfl <| .o (op_assign z0) <| .n) fun n2 a w hst => ?_
  replace hst := hst.to [1] [_] [] rfl rfl
  refine wp_ret ?_
  obtain rfl := sj h
  exact ret_st undef [] hpl hst rfl (.tmp z0 .nil) rfl rfl rfl
 ·replace h := ite_f b6 h
  refine wp_skip ?_
  refine hK2 _ _ ?_
  try clear hK2 K2
  refine wp_seq_k (fun K5 hK5 => ?_)
  obtain ⟨u13,hu13,h⟩ := bind_some h
  obtain ⟨t14,ht14,h⟩ := bind_some h
  refine wr mixed [] hst (fun _ => .o (op_loadSelf tokL182 z3) <| .q 3 rfl <| .q 3 rfl <| .q 5 rfl <| .o (op_rem z1 z0 (nz_ne hu13)) <| .o (op_callRec call165 (hself _ _ _ ht14) z4 (.cons (.of z3) <| .cons (.of z0) <| .nil)) <| .o (op_assign z0) <| .n) fun n3 a w hst => ?_
  replace hst := hst.to [6] [_] [] rfl rfl
  refine hK5 _ _ ?_
  try clear hK5 K5
  refine wp_ret ?_
  obtain rfl := sj h
  exact ret_st undef [] hpl hst rfl (.tmp z0 .nil) rfl rfl rfl
noncomputable def gratio_gcdq1N : Nat → Int → Int → Option (Int)
 | 0 => fun _ _ => none
 | n + 1 => fratio_gcdq1S (gratio_gcdq1N n)
theorem gratio_gcdq1N_ok {q : Value} : ∀ (n : Nat) (a_ : Int) (b_ : Int) (r : Int),gratio_gcdq1N n a_ b_ = some r → FnOk Tryz.prog 165 [tv (.int .u64 a_),tv (.int .u64 b_),tself 165 q] [] (fun _ => []) (fun _ => tv (.int .u64 r))
 | 0,_,_,r,h => by cases h
 | n + 1,a_,b_,r,h => ratio_gcdq1_okS (fun a_ b_ r h => gratio_gcdq1N_ok n a_ b_ r h) h
noncomputable def fratio_gcdq1 (a_ : Int) (b_ : Int) : Option (Int) := gratio_gcdq1N (b_.natAbs + 2) a_ b_
theorem ratio_gcdq1_ok {q : Value} {a_ : Int} {b_ : Int} {r : Int} (h : fratio_gcdq1 a_ b_ = some r) : FnOk Tryz.prog 165 [tv (.int .u64 a_),tv (.int .u64 b_),tself 165 q] [] (fun _ => []) (fun _ => tv (.int .u64 r)) := gratio_gcdq1N_ok _ _ _ _ h

/- diorama/ratio.gcd -/
noncomputable def fratio_gcd (a_ : Int) (b_ : Int) : Option (Int) := (fratio_gcdq1 a_ b_).bind fun t10 => (some t10)
set_option maxRecDepth 100000 in
set_option maxHeartbeats 4000000 in
theorem ratio_gcd_ok {a_ : Int} {b_ : Int} {r : Int} (h : fratio_gcd a_ b_ = some r) : FnOk Tryz.prog 152 [tv (.int .u64 a_),tv (.int .u64 b_)] [] (fun _ => []) (fun _ => tv (.int .u64 r)) := by
 unfold fratio_gcd at h
 refine FnOk.enter Tryz.func152 rfl Tryz.ntmps152 (leb rfl) (fun M0 M w0 a hpl hst => ?_)
 replace hst : St M w0 11 [(0,tv (.int .u64 a_)),(1,tv (.int .u64 b_))] [] a w0 := hst
 refine sr mixed [] hst (fun _ => .o (op_assign .k) <| .n) fun n0 a w hst => ?_
 replace hst := hst.to [1,2] [_,_] [] rfl rfl
 refine sr mixed [v1 0 (fun v0 => box (rClo.cs (none : Option (FuncId × List Value))) v0)] hst (fun _ => .m [] [0] rfl rfl rfl (op_alloc (R := rClo) (a := none) tokL182 zokL182) <| .n) fun n1 a w hst => ?_
 replace hst := hst.to [0,1,2] [_,_,_] [_] rfl rfl
 refine sr mixed [v0 (box (rClo.cs (some (165,[(n1 0)]))) (n1 0))] hst (fun _ => .o (op_clo1 z0) <| .e [] [0] [1] rfl rfl rfl rfl (op_storeB (R := rClo) (a := (some (165,[(n1 0)]))) tokL182 z1 z0 (leb rfl)) <| .n) fun n2 a w hst => ?_
 replace hst := hst.to [1,2,3] [_,_,_] [_] rfl rfl
 obtain ⟨t10,ht10,h⟩ := bind_some h
 refine sr mixed [] hst (fun _ => .u [0] rfl rfl (op_loadB (R := rClo) (u := (some (165,[(n1 0)]))) tokL182 z0 rfl) <| .q 2 rfl <| .q 4 rfl <| .u [0] rfl rfl (op_callSelf call165 (ratio_gcdq1_ok (q := (n1 0)) ht10) flat_tv z2 (.cons (.of z1) <| .cons (.of z0) <| .nil)) <| .o (op_assign z0) <| .n) fun n3 a w hst => ?_
 replace hst : St _ _ _ [_] [] _ _ := (hst.pick [4]).selA [] rfl
 refine wp_ret ?_
 obtain rfl := sj h
 exact ret_st undef [] hpl hst rfl (.tmp z0 .nil) rfl rfl rfl

/- diorama/ratio.Valid -/
noncomputable def fratio_Valid (a_ : Sapi_Ratio) : Option (Bool) := (if (eqSapi_Ratio a_ (Sapi_Ratio.mk (0:Int) (0:Int))) = true then (some true) else (opt (((((decide ((a_).Q ≥ (1:Int))) && (decide ((a_).Q ≤ (2147483648:Int)))) && (decide ((a_).P ≥ (-2147483648:Int)))) && (decide ((a_).P ≤ (2147483648:Int)))) == true) (fratio_size (a_).P) default).bind fun t27 => (opt (((((decide ((a_).Q ≥ (1:Int))) && (decide ((a_).Q ≤ (2147483648:Int)))) && (decide ((a_).P ≥ (-2147483648:Int)))) && (decide ((a_).P ≤ (2147483648:Int)))) == true) (fratio_size (a_).Q) default).bind fun t30 => (opt (((((decide ((a_).Q ≥ (1:Int))) && (decide ((a_).Q ≤ (2147483648:Int)))) && (decide ((a_).P ≥ (-2147483648:Int)))) && (decide ((a_).P ≤ (2147483648:Int)))) == true) (fratio_gcd t27 t30) default).bind fun t31 => (some (((((decide ((a_).Q ≥ (1:Int))) && (decide ((a_).Q ≤ (2147483648:Int)))) && (decide ((a_).P ≥ (-2147483648:Int)))) && (decide ((a_).P ≤ (2147483648:Int)))) && (t31 == (1:Int)))))
set_option maxRecDepth 100000 in
set_option maxHeartbeats 4000000 in
theorem ratio_Valid_ok {a_ : Sapi_Ratio} {r : Bool} (h : fratio_Valid a_ = some r) : FnOk Tryz.prog 121 [rSapi_Ratio.ty a_] [] (fun _ => []) (fun _ => tb r) := by
 unfold fratio_Valid at h
 refine FnOk.enter Tryz.func121 rfl Tryz.ntmps121 (leb rfl) (fun M0 M w0 a hpl hst => ?_)
 replace hst : St M w0 34 [(0,rSapi_Ratio.ty a_)] [] a w0 := hst
 refine sr mixed [] hst (fun _ => .o (op_boxR (R := rSapi_Ratio) (u := a_) z0) <| .o (op_assign .k) <| .n) fun n0 a w hst => ?_
 replace hst := hst.to [0] [_] [] rfl rfl
 refine wp_seq_k (fun K2 hK2 => ?_)
 refine sr mixed [] hst (fun _ => .o (op_load tok129 z0) <| .p (T := rSapi_Ratio.ty (Sapi_Ratio.mk (0:Int) (0:Int))) rfl (op_build ud129 pl129 zv129 zc129 (.nil _)) <| .o (op_eql_t129 z1 z0) <| .n) fun n1 a w hst => ?_
 replace hst := hst.to [2,3] [_,_] [] rfl rfl
 refine wt hst (fun b6 => ?_) (fun b6 => ?_)
 ·replace h := ite_t b6 h
  refine sr mixed [] hst (fun _ => .o (op_assign .k) <| .n) fun n2 a w hst => ?_
  replace hst := hst.to [0] [_] [] rfl rfl
  refine wp_ret ?_
  obtain rfl := sj h
  exact ret_st undef [] hpl hst rfl (.tmp z0 .nil) rfl rfl rfl
 ·replace h := ite_f b6 h
  refine wp_skip ?_
  refine hK2 _ _ ?_
  try clear hK2 K2
  obtain ⟨t27,ht27,h⟩ := bind_some h
  obtain ⟨t30,ht30,h⟩ := bind_some h
  obtain ⟨t31,ht31,h⟩ := bind_some h
  refine sr mixed [] hst (fun _ => .o (op_field fld129_1 z1) <| .o (op_loadT (R := rI) (u := (a_).Q) tok3 z0 rfl) <| .o (op_geq z0 .k) <| .q 0 rfl <| .g rfl rfl (.b 0 rfl) (fun _ => op_field fld129_1 z5) <| .g rfl rfl (.b 1 rfl) (fun hc => op_loadT (R := rI) (u := (a_).Q) tok3 (.cond z0 hc) rfl) <| .g rfl rfl (.b 2 rfl) (fun hc => op_leq (.cond z0 hc) .k) <| .o (op_and z3 (fun hp => (.cond z0 (beqT hp)))) <| .q 0 rfl <| .g rfl rfl (.b 0 rfl) (fun _ => op_field fld129_0 z10) <| .g rfl rfl (.b 1 rfl) (fun hc => op_loadT (R := rI) (u := (a_).P) tok3 (.cond z0 hc) rfl) <| .g rfl rfl (.b 2 rfl) (fun hc => op_geq (.cond z0 hc) .k) <| .o (op_and z3 (fun hp => (.cond z0 (beqT hp)))) <| .q 0 rfl <| .g rfl rfl (.b 0 rfl) (fun _ => op_field fld129_0 z15) <| .g rfl rfl (.b 1 rfl) (fun hc => op_loadT (R := rI) (u := (a_).P) tok3 (.cond z0 hc) rfl) <| .g rfl rfl (.b 2 rfl) (fun hc => op_leq (.cond z0 hc) .k) <| .o (op_and z3 (fun hp => (.cond z0 (beqT hp)))) <| .q 0 rfl <| .g rfl rfl (.b 0 rfl) (fun _ => op_field fld129_0 z20) <| .g rfl rfl (.b 1 rfl) (fun hc => op_loadT (R := rI) (u := (a_).P) tok3 (.cond z0 hc) rfl) <| .g rfl rfl (.b 2 rfl) (fun hc => op_callF call153 (ratio_size_ok (opt_t ht27 hc)) (.cons (.of (.cond z0 hc)) <| .nil)) <| .g rfl rfl (.b 3 rfl) (fun _ => op_field fld129_1 z23) <| .g rfl rfl (.b 4 rfl) (fun hc => op_loadT (R := rI) (u := (a_).Q) tok3 (.cond z0 hc) rfl) <| .g rfl rfl (.b 5 rfl) (fun hc => op_callF call153 (ratio_size_ok (opt_t ht30 hc)) (.cons (.of (.cond z0 hc)) <| .nil)) <| .g rfl rfl (.b 6 rfl) (fun hc => op_callF call152 (ratio_gcd_ok (opt_t ht31 hc)) (.cons (.of (.cond z3 hc)) <| .cons (.of (.cond z0 hc)) <| .nil)) <| .g rfl rfl (.b 7 rfl) (fun hc => op_eql (.cond z0 hc) .k) <| .o (op_and z8 (fun hp => (.cond z0 (beqT hp)))) <| .o (op_assign z0) <| .n) fun n3 a w hst => ?_
  replace hst := hst.to [28] [_] [] rfl rfl
  refine wp_ret ?_
  obtain rfl := sj h
  exact ret_st undef [] hpl hst rfl (.tmp z0 .nil) rfl rfl rfl

/- slices.Max[[]int,int] -/
noncomputable def fslices_Max_int (x_ : (List Int)) : Option (Int) := (if (decide ((x_.length : Int) < (1:Int))) = true then none else (idx x_ (0:Int)).bind fun t10 => (tailrec (fun (s7 : Int × Int) => ((if (decide (s7.1 < (x_.length : Int))) = true then (idx x_ s7.1).bind fun t21 => (some (.inl ((IntKind.i64.wrap (s7.1 + (1:Int))),(imax s7.2 t21)))) else (some (.inr s7.2))) : Option ((Int × Int) ⊕ ((Int))))) ((1:Int),t10)).bind fun (p17 : (Int)) => (some p17))
set_option maxRecDepth 100000 in
set_option maxHeartbeats 4000000 in
theorem slices_Max_int_ok {x_ : (List Int)} {r : Int} (h : fslices_Max_int x_ = some r) : FnOk Tryz.prog 122 [tsl rI x_] [] (fun _ => []) (fun _ => ti r) := by
 unfold fslices_Max_int at h
 refine FnOk.enter Tryz.func122 rfl Tryz.ntmps122 (leb rfl) (fun M0 M w0 a hpl hst => ?_)
 replace hst : St M w0 25 [(0,tsl rI x_)] [] a w0 := hst
 refine sr mixed [] hst (fun _ => .o (op_assign .k) <| .n) fun n0 a w hst => ?_
 replace hst := hst.to [1] [_] [] rfl rfl
 refine wp_seq_k (fun K2 hK2 => ?_)
 refine sr mixed [] hst (fun _ => .q 0 rfl <| .o (op_len ud22 z0) <| .o (op_lss z0 .k) <| .n) fun n1 a w hst => ?_
 replace hst := hst.to [2,3] [_,_] [] rfl rfl
 refine wt hst (fun b24 => ?_) (fun b24 => ?_)
 ·replace h := ite_t b24 h
  cases h
 ·replace h := ite_f b24 h
  refine wp_skip ?_
  refine hK2 _ _ ?_
  try clear hK2 K2
  obtain ⟨t10,ht10,h⟩ := bind_some h
  refine sr mixed [] hst (fun _ => .q 1 rfl <| .o (op_index ud22 tok3 z0 .k ht10) <| .o (op_load tok3 z0) <| .o (op_assign z0) <| .n) fun n3 a w hst => ?_
  replace hst := hst.to [3,5] [_,_] [] rfl rfl
  refine wp_seq_k (fun K5 hK5 => ?_)
  refine sr mixed [] hst (fun _ => .o (op_assign .k) <| .n) fun n4 a w hst => ?_
  replace hst := hst.to [0,1,2] [_,_,_] [] rfl rfl
  obtain ⟨e8,he8,h⟩ := bind_some h
  have hJp17 : ∀ (p17 : Int) a w,p17 = e8 → St M w0 25 [(3,ti p17)] [] a w → K5 a w := by
   intro p17 a w he hst
   subst he
   refine hK5 _ _ ?_
   try clear hK5 K5
   refine sr mixed [] hst (fun _ => .q 0 rfl <| .o (op_assign z0) <| .n) fun n8 a w hst => ?_
   replace hst := hst.to [1] [_] [] rfl rfl
   refine wp_ret ?_
   obtain rfl := sj h
   exact ret_st undef [] hpl hst rfl (.tmp z0 .nil) rfl rfl rfl
  refine wp_block ?_
  refine wp_loopK _ (fun (s7 : Int × Int) a w => St M w0 25 [(4,ti s7.1),(3,ti s7.2),(0,tsl rI x_)] [] a w) _ _ he8 (hst.pick [0,1,2]) ?_
  clear h
  intro s7 o a w K19 hI h ho hK19
  have hst := hI
  clear hI
  refine wp_seq_k (fun K20 hK20 => ?_)
  refine sr mixed [] hst (fun _ => .q 0 rfl <| .q 3 rfl <| .o (op_len ud22 z0) <| .o (op_lss z2 z0) <| .n) fun n5 a w hst => ?_
  replace hst := hst.to [3,4,5,6] [_,_,_,_] [] rfl rfl
  refine wt hst (fun b23 => ?_) (fun b23 => ?_)
  ·replace h := ite_t b23 h
   refine wp_skip ?_
   refine hK20 _ _ ?_
   try clear hK20 K20
   refine wp_seq_k (fun K22 hK22 => ?_)
   refine wp_block ?_
   obtain ⟨t21,ht21,h⟩ := bind_some h
   refine wr mixed [] hst (fun _ => .q 2 rfl <| .q 4 rfl <| .q 3 rfl <| .o (op_index ud22 tok3 z1 z0 ht21) <| .o (op_load tok3 z0) <| .o (op_max z4 z0) <| .o (op_assign z0) <| .n) fun n7 a w hst => ?_
   replace hst := hst.to [6,8,9] [_,_,_] [] rfl rfl
   refine hK22 _ _ ?_
   try clear hK22 K22
   refine wr mixed [] hst (fun _ => .q 1 rfl <| .o (op_add z0 .k) <| .o (op_assign z0) <| .n) fun n6 a w hst => ?_
   replace hst := hst.to [2,3,4] [_,_,_] [] rfl rfl
   exact hK19 _ _ _ (sj h).symm (hst.pick [0,1,2])
  ·replace h := ite_f b23 h
   refine wp_exit ?_
   exact hJp17 _ _ _ (ho _ (sj h).symm) (hst.pick [2])

/- diorama/learn.Blend -/
noncomputable def flearn_Blend (a_ : (List Int)) (b_ : (List Int)) (share_ : Sapi_Ratio) : Option ((List Int) × Int) := (flearn_both a_ b_).bind fun t17 => (if (t17 != (0:Int)) = true then (some (([] : List Int),t17)) else (fratio_Valid share_).bind fun t27 => (if ((((!t27) || (decide ((share_).P < (0:Int)))) || (decide ((share_).P > (imax (share_).Q (1:Int))))) || (decide ((imax (share_).Q (1:Int)) > (1024:Int)))) = true then (some (([] : List Int),(5:Int))) else (flearn_sum a_).bind fun t43 => (flearn_sum b_).bind fun t45 => (mk (a_.length : Int) (0:Int)).bind fun t48 => (tailrec (fun (s15 : Int × List Int) => ((if (decide (s15.1 < (t48.length : Int))) = true then (idx a_ s15.1).bind fun t61 => (idx b_ s15.1).bind fun t69 => (setAt s15.2 s15.1 (IntKind.i64.wrap ((IntKind.i64.wrap ((IntKind.i64.wrap ((IntKind.i64.wrap ((imax (share_).Q (1:Int)) - (share_).P)) * t61)) * t45)) + (IntKind.i64.wrap ((IntKind.i64.wrap ((share_).P * t69)) * t43))))).bind fun t75s => (some (.inl ((IntKind.i64.wrap (s15.1 + (1:Int))),t75s))) else (some (.inr s15.2))) : Option ((Int × List Int) ⊕ ((List Int))))) ((0:Int),t48)).bind fun (p27 : (List Int)) => (flearn_lowest p27).bind fun t78 => (fslices_Max_int t78).bind fun t80 => (if (decide (t80 > (1048576:Int))) = true then (some (([] : List Int),(5:Int))) else (some (t78,(0:Int))))))
set_option maxRecDepth 100000 in
set_option maxHeartbeats 4000000 in
theorem learn_Blend_ok {a_ : (List Int)} {b_ : (List Int)} {share_ : Sapi_Ratio} {r : (List Int) × Int} (h : flearn_Blend a_ b_ share_ = some r) : FnOk Tryz.prog 82 [tsl rI a_,tsl rI b_,rSapi_Ratio.ty share_] [] (fun _ => []) (fun _ => ttup [tsl rI r.1,ti r.2]) := by
 unfold flearn_Blend at h
 refine FnOk.enter Tryz.func82 rfl Tryz.ntmps82 (leb rfl) (fun M0 M w0 a hpl hst => ?_)
 replace hst : St M w0 83 [(0,tsl rI a_),(1,tsl rI b_),(2,rSapi_Ratio.ty share_)] [] a w0 := hst
 refine sr mixed [] hst (fun _ => .o (op_boxR (R := rSapi_Ratio) (u := share_) z2) <| .o (op_assign (.nilsl (R := rI))) <| .o (op_assign .k) <| .n) fun n0 a w hst => ?_
 replace hst := hst.to [0,3,4] [_,_,_] [] rfl rfl
 refine wp_seq_k (fun K2 hK2 => ?_)
 obtain ⟨t17,ht17,h⟩ := bind_some h
 refine sr mixed [] hst (fun _ => .q 1 rfl <| .q 3 rfl <| .o (op_callF call120 (learn_both_ok ht17) (.cons (.of z1) <| .cons (.of z0) <| .nil)) <| .o (op_assign z0) <| .n) fun n1 a w hst => ?_
 replace hst := hst.to [3,4,5,6] [_,_,_,_] [] rfl rfl
 refine sr mixed [] hst (fun _ => .q 0 rfl <| .o (op_neq z0 .k) <| .n) fun n2 a w hst => ?_
 replace hst := hst.to [1,2,3,4,5] [_,_,_,_,_] [] rfl rfl
 refine wt hst (fun b41 => ?_) (fun b41 => ?_)
 ·replace h := ite_t b41 h
  refine sr mixed [] hst (fun _ => .q 1 rfl <| .o (op_assign (.nilsl (R := rI))) <| .o (op_assign z1) <| .n) fun n3 a w hst => ?_
  replace hst := hst.to [1,2] [_,_] [] rfl rfl
  refine wp_ret ?_
  obtain rfl := sj h
  exact ret_st undef [] hpl hst rfl (.tmp z0 (.tmp z1 .nil)) rfl rfl rfl
 ·replace h := ite_f b41 h
  refine wp_skip ?_
  refine hK2 _ _ ?_
  try clear hK2 K2
  refine sr mixed [] hst (fun _ => .o (op_field fld129_0 z2) <| .o (op_loadT (R := rI) (u := (share_).P) tok3 z0 rfl) <| .o (op_field fld129_1 z4) <| .o (op_loadT (R := rI) (u := (share_).Q) tok3 z0 rfl) <| .o (op_max z0 .k) <| .o (op_assign z3) <| .o (op_assign z1) <| .n) fun n4 a w hst => ?_
  replace hst := hst.to [5,6,9,10,11] [_,_,_,_,_] [] rfl rfl
  refine wp_seq_k (fun K7 hK7 => ?_)
  obtain ⟨t27,ht27,h⟩ := bind_some h
  refine sr mixed [] hst (fun _ => .o (op_load tok129 z2) <| .o (op_callF call121 (ratio_Valid_ok ht27) (.cons (.of z0) <| .nil)) <| .o (op_not z0) <| .q 0 rfl <| .g rfl rfl (.b 0 rfl) (fun _ => op_move z4) <| .g rfl rfl (.b 1 rfl) (fun hc => op_lss (.cond z0 hc) .k) <| .o (op_or z2 (fun hp => (.cond z0 (beqF hp)))) <| .q 0 rfl <| .g rfl rfl (.b 0 rfl) (fun _ => op_move z8) <| .g rfl rfl (.b 1 rfl) (fun _ => op_move z10) <| .g rfl rfl (.b 2 rfl) (fun hc => op_gtr (.cond z1 hc) (.cond z0 hc)) <| .o (op_or z3 (fun hp => (.cond z0 (beqF hp)))) <| .q 0 rfl <| .g rfl rfl (.b 0 rfl) (fun _ => op_move z14) <| .g rfl rfl (.b 1 rfl) (fun hc => op_gtr (.cond z0 hc) .k) <| .o (op_or z2 (fun hp => (.cond z0 (beqF hp)))) <| .n) fun n5 a w hst => ?_
  replace hst := hst.to [15,16,17,19,20] [_,_,_,_,_] [] rfl rfl
  refine wt hst (fun b40 => ?_) (fun b40 => ?_)
  ·replace h := ite_t b40 h
   refine sr mixed [] hst (fun _ => .o (op_assign (.nilsl (R := rI))) <| .o (op_assign .k) <| .n) fun n6 a w hst => ?_
   replace hst := hst.to [0,1] [_,_] [] rfl rfl
   refine wp_ret ?_
   obtain rfl := sj h
   exact ret_st undef [] hpl hst rfl (.tmp z0 (.tmp z1 .nil)) rfl rfl rfl
  ·replace h := ite_f b40 h
   refine wp_skip ?_
   refine hK7 _ _ ?_
   try clear hK7 K7
   obtain ⟨t43,ht43,h⟩ := bind_some h
   obtain ⟨t45,ht45,h⟩ := bind_some h
   refine sr mixed [] hst (fun _ => .q 3 rfl <| .o (op_callF call59 (learn_sum_ok ht43) (.cons (.of z0) <| .nil)) <| .q 6 rfl <| .o (op_callF call59 (learn_sum_ok ht45) (.cons (.of z0) <| .nil)) <| .o (op_assign z2) <| .o (op_assign z1) <| .n) fun n7 a w hst => ?_
   replace hst := hst.to [4,5,7,8,9,10] [_,_,_,_,_,_] [] rfl rfl
   obtain ⟨t48,ht48,h⟩ := bind_some h
   refine sr mixed [v1 2 (fun v0 => own rI 3 t48 v0)] hst (fun _ => .q 4 rfl <| .o (op_len ud22 z0) <| .m [] [0] rfl rfl rfl (op_makeO (R := rI) ud22 tok3 zok3 (leb rfl) z0 z0 ht48) <| .ud (f := fun v => tv v) 2 rfl [] rfl rfl (op_assign z0) <| .n) fun n8 a w hst => ?_
   replace hst := hst.to [2,3,4,5,6,7,8,9] [_,_,_,_,_,_,_,_] [_] rfl rfl
   refine wp_seq_k (fun K13 hK13 => ?_)
   refine sr mixed [] hst (fun _ => .q 1 rfl <| .u [0] rfl rfl (op_lenO ud22 z0) <| .o (op_move .k) <| .n) fun n9 a w hst => ?_
   replace hst := hst.to [0,1,2,3,4,5,6,7,8,9,10] [_,_,_,_,_,_,_,_,_,_,_] [_] rfl rfl
   obtain ⟨e16,he16,h⟩ := bind_some h
   have hJp27 : ∀ (p27 : List Int) a w,p27 = e16 → St M w0 83 [(13,tv (n8 2))] [own rI 3 p27 (n8 2)] a w → K13 a w := by
    intro p27 a w he hst
    subst he
    refine hK13 _ _ ?_
    try clear hK13 K13
    refine wp_seq_k (fun K28 hK28 => ?_)
    refine wp_seq_k (fun K29 hK29 => ?_)
    replace hst : St _ _ _ [_] [] _ _ := (hst.shareO 0 rfl).pick [0]
    obtain ⟨t78,ht78,h⟩ := bind_some h
    refine wr mixed [] hst (fun _ => .q 0 rfl <| .o (op_callF call60 (learn_lowest_ok ht78) (.cons (.of z0) <| .nil)) <| .o (op_assign z0) <| .n) fun n14 a w hst => ?_
    replace hst := hst.to [2] [_] [] rfl rfl
    refine hK29 _ _ ?_
    try clear hK29 K29
    obtain ⟨t80,ht80,h⟩ := bind_some h
    refine sr mixed [] hst (fun _ => .q 0 rfl <| .o (op_callF call122 (slices_Max_int_ok ht80) (.cons (.of z0) <| .nil)) <| .o (op_gtr z0 .k) <| .n) fun n15 a w hst => ?_
    replace hst := hst.to [2,3] [_,_] [] rfl rfl
    refine wt hst (fun b33 => ?_) (fun b33 => ?_)
    ·replace h := ite_t b33 h
     refine sr mixed [] hst (fun _ => .o (op_assign (.nilsl (R := rI))) <| .o (op_assign .k) <| .n) fun n16 a w hst => ?_
     replace hst := hst.to [0,1] [_,_] [] rfl rfl
     refine wp_ret ?_
     obtain rfl := sj h
     exact ret_st undef [] hpl hst rfl (.tmp z0 (.tmp z1 .nil)) rfl rfl rfl
    ·replace h := ite_f b33 h
     refine wp_skip ?_
     refine hK28 _ _ ?_
     try clear hK28 K28
     refine sr mixed [] hst (fun _ => .q 1 rfl <| .o (op_assign z0) <| .o (op_assign .k) <| .n) fun n17 a w hst => ?_
     replace hst := hst.to [1,2] [_,_] [] rfl rfl
     refine wp_ret ?_
     obtain rfl := sj h
     exact ret_st undef [] hpl hst rfl (.tmp z0 (.tmp z1 .nil)) rfl rfl rfl
   refine wp_block ?_
   refine wp_loopK _ (fun (s15 : Int × List Int) a w => St M w0 83 [(50,ti (t48.length : Int)),(51,ti s15.1),(13,tv (n8 2)),(11,ti t43),(12,ti t45),(9,ti (share_).P),(10,ti (imax (share_).Q (1:Int))),(0,tsl rI a_),(1,tsl rI b_)] [own rI 3 s15.2 (n8 2)] a w) _ _ he16 (hst.pick [1,2,4,5,6,7,8,9,10]) ?_
   clear h
   intro s15 o a w K34 hI h ho hK34
   have hst := hI
   clear hI
   refine sr mixed [] hst (fun _ => .o (op_lss z1 z0) <| .n) fun n10 a w hst => ?_
   replace hst := hst.to [0,1,2,3,4,5,6,7,8,9] [_,_,_,_,_,_,_,_,_,_] [_] rfl rfl
   refine wp_seq_k (fun K36 hK36 => ?_)
   refine wt hst (fun b39 => ?_) (fun b39 => ?_)
   ·replace h := ite_t b39 h
    refine wp_skip ?_
    refine hK36 _ _ ?_
    try clear hK36 K36
    refine wp_seq_k (fun K37 hK37 => ?_)
    refine wp_block ?_
    refine sr mixed [] hst (fun _ => .q 2 rfl <| .o (op_assign z0) <| .n) fun n11 a w hst => ?_
    replace hst := hst.to [1,3,4,5,6,7,8,9,10,11] [_,_,_,_,_,_,_,_,_,_] [_] rfl rfl
    obtain ⟨t61,ht61,h⟩ := bind_some h
    obtain ⟨t69,ht69,h⟩ := bind_some h
    obtain ⟨t75s,ht75s,h⟩ := bind_some h
    refine wr mixed [v0 (own rI 3 t75s (n8 2))] hst (fun _ => .q 3 rfl <| .q 1 rfl <| .q 9 rfl <| .q 9 rfl <| .o (op_sub z1 z0) <| .q 13 rfl <| .q 6 rfl <| .o (op_index ud22 tok3 z1 z0 ht61) <| .o (op_load tok3 z0) <| .o (op_mul z4 z0) <| .q 15 rfl <| .o (op_mul z1 z0) <| .q 18 rfl <| .q 22 rfl <| .q 14 rfl <| .o (op_index ud22 tok3 z1 z0 ht69) <| .o (op_load tok3 z0) <| .o (op_mul z4 z0) <| .q 22 rfl <| .o (op_mul z1 z0) <| .o (op_add z8 z0) <| .u [0] rfl rfl (op_indexOs ud22 tok3 z20 z19 ht75s) <| .e [] [0] [1] rfl rfl rfl rfl (op_storeO tok3 z0 z1 ht75s) <| .n) fun n12 a w hst => ?_
    replace hst := hst.to [0,23,24,25,26,27,28,29,30,31] [_,_,_,_,_,_,_,_,_,_] [_] rfl rfl
    refine hK37 _ _ ?_
    try clear hK37 K37
    refine wr mixed [] hst (fun _ => .o (op_add z2 .k) <| .q 0 rfl <| .n) fun n13 a w hst => ?_
    replace hst := hst.to [1,2,3,4,5,6,7,8,9,10] [_,_,_,_,_,_,_,_,_,_] [_] rfl rfl
    exact hK34 _ _ _ (sj h).symm (hst.pick [2,0,3,4,5,6,7,8,9])
   ·replace h := ite_f b39 h
    refine wp_exit ?_
    exact hJp27 _ _ _ (ho _ (sj h).symm) (hst.pick [3])

/- diorama/ratio.Make -/
noncomputable def fratio_Make (p_ : Int) (q_ : Int) : Option (Sapi_Ratio × Int) := (if (q_ == (0:Int)) = true then (some ((Sapi_Ratio.mk (0:Int) (0:Int)),(1:Int))) else (fratio_size p_).bind fun t14 => (fratio_size q_).bind fun t16 => (fratio_gcd t14 t16).bind fun t19 => (nz t19).bind fun _ => (nz t19).bind fun _ => (if ((decide ((IntKind.u64.wrap (Int.tdiv t14 t19)) > (2147483648:Int))) || (decide ((IntKind.u64.wrap (Int.tdiv t16 t19)) > (2147483648:Int)))) = true then (some ((Sapi_Ratio.mk (0:Int) (0:Int)),(5:Int))) else ((if ((decide (p_ < (0:Int))) != (decide (q_ < (0:Int)))) = true then (some (Sapi_Ratio.mk (IntKind.i64.wrap (0 - (IntKind.i64.wrap (IntKind.u64.wrap (Int.tdiv t14 t19))))) (IntKind.i64.wrap (IntKind.u64.wrap (Int.tdiv t16 t19))))) else (some (Sapi_Ratio.mk (IntKind.i64.wrap (IntKind.u64.wrap (Int.tdiv t14 t19))) (IntKind.i64.wrap (IntKind.u64.wrap (Int.tdiv t16 t19))))))).bind fun (p16 : Sapi_Ratio) => (some (p16,(0:Int)))))
set_option maxRecDepth 100000 in
set_option maxHeartbeats 4000000 in
theorem ratio_Make_ok {p_ : Int} {q_ : Int} {r : Sapi_Ratio × Int} (h : fratio_Make p_ q_ = some r) : FnOk Tryz.prog 123 [ti p_,ti q_] [] (fun _ => []) (fun _ => ttup [rSapi_Ratio.ty r.1,ti r.2]) := by
 unfold fratio_Make at h
 refine FnOk.enter Tryz.func123 rfl Tryz.ntmps123 (leb rfl) (fun M0 M w0 a hpl hst => ?_)
 replace hst : St M w0 48 [(0,ti p_),(1,ti q_)] [] a w0 := hst
 refine sr mixed [v1 0 (fun v0 => box (rSapi_Ratio.cs (Sapi_Ratio.mk (0:Int) (0:Int))) v0)] hst (fun _ => .m [] [0] rfl rfl rfl (op_alloc (R := rSapi_Ratio) (a := (Sapi_Ratio.mk (0:Int) (0:Int))) tok129 zok129) <| .o (op_assign .k) <| .n) fun n0 a w hst => ?_
 replace hst := hst.to [0,2,3] [_,_,_] [_] rfl rfl
 refine wp_seq_k (fun K3 hK3 => ?_)
 refine sr mixed [] hst (fun _ => .q 2 rfl <| .o (op_eql z0 .k) <| .n) fun n1 a w hst => ?_
 replace hst := hst.to [1,2,3,4] [_,_,_,_] [_] rfl rfl
 refine wt hst (fun b21 => ?_) (fun b21 => ?_)
 ·replace h := ite_t b21 h
  refine sr mixed [v0 (box (rSapi_Ratio.cs (Sapi_Ratio.mk (0:Int) (0:Int))) (n0 0))] hst (fun _ => .p (T := rSapi_Ratio.ty (Sapi_Ratio.mk (0:Int) (0:Int))) rfl (op_build ud129 pl129 zv129 zc129 (.nil _)) <| .e [] [0] [1] rfl rfl rfl rfl (op_storeB (R := rSapi_Ratio) (a := (Sapi_Ratio.mk (0:Int) (0:Int))) tok129 z2 z0 (leb rfl)) <| .o (op_assign .k) <| .n) fun n2 a w hst => ?_
  replace hst := hst.to [1,3] [_,_] [_] rfl rfl
  refine wp_ret ?_
  obtain rfl := sj h
  exact ret_st undef [] hpl hst rfl (.cell (R := rSapi_Ratio) (u := (Sapi_Ratio.mk (0:Int) (0:Int))) tok129 z1 0 rfl rfl (.tmp z0 .nil)) rfl rfl rfl
 ·replace h := ite_f b21 h
  refine wp_skip ?_
  refine hK3 _ _ ?_
  try clear hK3 K3
  obtain ⟨t14,ht14,h⟩ := bind_some h
  obtain ⟨t16,ht16,h⟩ := bind_some h
  refine sr mixed [] hst (fun _ => .q 2 rfl <| .o (op_callF call153 (ratio_size_ok ht14) (.cons (.of z0) <| .nil)) <| .q 5 rfl <| .o (op_callF call153 (ratio_size_ok ht16) (.cons (.of z0) <| .nil)) <| .o (op_assign z2) <| .o (op_assign z1) <| .n) fun n3 a w hst => ?_
  replace hst := hst.to [4,5,7,8,9] [_,_,_,_,_] [_] rfl rfl
  obtain ⟨t19,ht19,h⟩ := bind_some h
  refine sr mixed [] hst (fun _ => .q 0 rfl <| .q 2 rfl <| .o (op_callF call152 (ratio_gcd_ok ht19) (.cons (.of z1) <| .cons (.of z0) <| .nil)) <| .o (op_assign z0) <| .n) fun n4 a w hst => ?_
  replace hst := hst.to [3,4,5,6,7,8] [_,_,_,_,_,_] [_] rfl rfl
  refine wp_seq_k (fun K8 hK8 => ?_)
  obtain ⟨u22,hu22,h⟩ := bind_some h
  obtain ⟨u25,hu25,h⟩ := bind_some h
  refine wr mixed [] hst (fun _ => .q 1 rfl <| .q 1 rfl <| .o (op_quo z1 z0 (nz_ne hu22)) <| .q 5 rfl <| .q 4 rfl <| .o (op_quo z1 z0 (nz_ne hu25)) <| .o (op_assign z3) <| .o (op_assign z1) <| .n) fun n5 a w hst => ?_
  replace hst := hst.to [6,7,9,10,11] [_,_,_,_,_] [_] rfl rfl
  refine hK8 _ _ ?_
  try clear hK8 K8
  refine wp_seq_k (fun K9 hK9 => ?_)
  refine sr mixed [] hst (fun _ => .q 0 rfl <| .o (op_gtr z0 .k) <| .q 0 rfl <| .g rfl rfl (.b 0 rfl) (fun _ => op_move z4) <| .g rfl rfl (.b 1 rfl) (fun hc => op_gtr (.cond z0 hc) .k) <| .o (op_or z2 (fun hp => (.cond z0 (beqF hp)))) <| .n) fun n6 a w hst => ?_
  replace hst := hst.to [5,6,7,8,9,10] [_,_,_,_,_,_] [_] rfl rfl
  refine wt hst (fun b20 => ?_) (fun b20 => ?_)
  ·replace h := ite_t b20 h
   refine sr mixed [v0 (box (rSapi_Ratio.cs (Sapi_Ratio.mk (0:Int) (0:Int))) (n0 0))] hst (fun _ => .p (T := rSapi_Ratio.ty (Sapi_Ratio.mk (0:Int) (0:Int))) rfl (op_build ud129 pl129 zv129 zc129 (.nil _)) <| .e [] [0] [1] rfl rfl rfl rfl (op_storeB (R := rSapi_Ratio) (a := (Sapi_Ratio.mk (0:Int) (0:Int))) tok129 z4 z0 (leb rfl)) <| .o (op_assign .k) <| .n) fun n7 a w hst => ?_
   replace hst := hst.to [1,5] [_,_] [_] rfl rfl
   refine wp_ret ?_
   obtain rfl := sj h
   exact ret_st undef [] hpl hst rfl (.cell (R := rSapi_Ratio) (u := (Sapi_Ratio.mk (0:Int) (0:Int))) tok129 z1 0 rfl rfl (.tmp z0 .nil)) rfl rfl rfl
  ·replace h := ite_f b20 h
   refine wp_skip ?_
   refine hK9 _ _ ?_
   try clear hK9 K9
   refine sr mixed [v1 5 (fun v0 => box (rSapi_Ratio.cs (Sapi_Ratio.mk (0:Int) (0:Int))) v0),v1 5 (fun v0 => box (rSapi_Ratio.cs (Sapi_Ratio.mk (IntKind.i64.wrap (IntKind.u64.wrap (Int.tdiv t14 t19))) (IntKind.i64.wrap (IntKind.u64.wrap (Int.tdiv t16 t19))))) v0)] hst (fun _ => .q 1 rfl <| .o (op_conv ud181 ud3 z0) <| .q 4 rfl <| .o (op_conv ud181 ud3 z0) <| .p (T := rSapi_Ratio.ty (Sapi_Ratio.mk (IntKind.i64.wrap (IntKind.u64.wrap (Int.tdiv t14 t19))) (IntKind.i64.wrap (IntKind.u64.wrap (Int.tdiv t16 t19))))) rfl (op_build ud129 pl129 zv129 zc129 (.cons (R := rI) (u := (IntKind.i64.wrap (IntKind.u64.wrap (Int.tdiv t14 t19)))) rfl z2 (leb rfl) <| .cons (R := rI) (u := (IntKind.i64.wrap (IntKind.u64.wrap (Int.tdiv t16 t19)))) rfl z0 (leb rfl) <| .nil _)) <| .m [] [1] rfl rfl rfl (op_alloc (R := rSapi_Ratio) (a := (Sapi_Ratio.mk (0:Int) (0:Int))) tok129 zok129) <| .e [] [1] [2] rfl rfl rfl rfl (op_storeB (R := rSapi_Ratio) (a := (Sapi_Ratio.mk (IntKind.i64.wrap (IntKind.u64.wrap (Int.tdiv t14 t19))) (IntKind.i64.wrap (IntKind.u64.wrap (Int.tdiv t16 t19))))) tok129 z0 z1 (leb rfl)) <| .n) fun n8 a w hst => ?_
   replace hst := hst.to [5,9,10,11] [_,_,_,_] [_,_] rfl rfl
   refine wp_seq_k (fun K14 hK14 => ?_)
   refine sr mixed [] hst (fun _ => .q 2 rfl <| .o (op_lss z0 .k) <| .q 5 rfl <| .o (op_lss z0 .k) <| .o (op_neqB Tryz.underlying4 z2 z0) <| .n) fun n9 a w hst => ?_
   replace hst := hst.to [4,5,6] [_,_,_] [_,_] rfl rfl
   obtain ⟨p16,hp16,h⟩ := bind_some h
   have hJp16 : ∀ a w,St M w0 48 [(9,tv (n8 5)),(4,tv (n0 0))] [box (rSapi_Ratio.cs (Sapi_Ratio.mk (0:Int) (0:Int))) (n0 0),box (rSapi_Ratio.cs p16) (n8 5)] a w → K14 a w := by
    intro a w hst
    refine hK14 _ _ ?_
    try clear hK14 K14
    refine sr mixed [v0 (box (rSapi_Ratio.cs p16) (n0 0))] hst (fun _ => .u [1] rfl rfl (op_loadB (R := rSapi_Ratio) (u := p16) tok129 z0 rfl) <| .e [] [0] [2] rfl rfl rfl rfl (op_storeB (R := rSapi_Ratio) (a := p16) tok129 z2 z0 (leb rfl)) <| .o (op_assign .k) <| .n) fun n11 a w hst => ?_
    replace hst : St _ _ _ [_,_] [_] _ _ := (hst.pick [1,3]).selA [1] rfl
    refine wp_ret ?_
    obtain rfl := sj h
    exact ret_st undef [] hpl hst rfl (.cell (R := rSapi_Ratio) (u := p16) tok129 z1 0 rfl rfl (.tmp z0 .nil)) rfl rfl rfl
   replace h := hp16
   clear hp16
   refine wt hst (fun b19 => ?_) (fun b19 => ?_)
   ·replace h := ite_t b19 h
    refine wr mixed [v0 (box (rSapi_Ratio.cs (Sapi_Ratio.mk (IntKind.i64.wrap (0 - (IntKind.i64.wrap (IntKind.u64.wrap (Int.tdiv t14 t19))))) (IntKind.i64.wrap (IntKind.u64.wrap (Int.tdiv t16 t19))))) (n8 5))] hst (fun _ => .u [1] rfl rfl (op_fieldB fld129_0 z1) <| .u [1] rfl rfl (op_loadBf (R := rI) (u := (IntKind.i64.wrap (IntKind.u64.wrap (Int.tdiv t14 t19)))) tok3 z0 rfl) <| .o (op_neg z0) <| .u [1] rfl rfl (op_fieldB fld129_0 z4) <| .e [] [1] [2] rfl rfl rfl rfl (op_storeBf (R := rI) (a := (IntKind.i64.wrap (0 - (IntKind.i64.wrap (IntKind.u64.wrap (Int.tdiv t14 t19)))))) (Ts := (rSapi_Ratio.cs (Sapi_Ratio.mk (IntKind.i64.wrap (IntKind.u64.wrap (Int.tdiv t14 t19))) (IntKind.i64.wrap (IntKind.u64.wrap (Int.tdiv t16 t19)))))) (off := 0) tok3 z0 z1 (leb rfl)) <| .n) fun n10 a w hst => ?_
    replace hst := hst.to [5,6] [_,_] [_,_] rfl rfl
    obtain rfl := sj h
    exact hJp16 _ _ (hst.pick [0,1])
   ·replace h := ite_f b19 h
    refine wp_skip ?_
    obtain rfl := sj h
    exact hJp16 _ _ (hst.pick [1,2])

/- diorama/learn.Far -/
noncomputable def flearn_Far (a_ : (List Int)) (b_ : (List Int)) : Option (Sapi_Ratio × Int) := (flearn_both a_ b_).bind fun t16 => (if (t16 != (0:Int)) = true then (some ((Sapi_Ratio.mk (0:Int) (0:Int)),t16)) else (flearn_sum a_).bind fun t22 => (flearn_sum b_).bind fun t24 => (tailrec (fun (s11 : Int × Int) => ((if (decide (s11.1 < (a_.length : Int))) = true then (idx a_ s11.1).bind fun t33 => (idx b_ s11.1).bind fun t39 => (idx b_ s11.1).bind fun t46 => (idx a_ s11.1).bind fun t52 => (some (.inl ((IntKind.i64.wrap (s11.1 + (1:Int))),(IntKind.i64.wrap (s11.2 + (imax (IntKind.i64.wrap ((IntKind.i64.wrap (t33 * t24)) - (IntKind.i64.wrap (t39 * t22)))) (IntKind.i64.wrap ((IntKind.i64.wrap (t46 * t22)) - (IntKind.i64.wrap (t52 * t24)))))))))) else (some (.inr s11.2))) : Option ((Int × Int) ⊕ ((Int))))) ((0:Int),(0:Int))).bind fun (p23 : (Int)) => (flearn_gcd [p23,(IntKind.i64.wrap ((IntKind.i64.wrap ((2:Int) * t22)) * t24))]).bind fun t66 => (nz t66).bind fun _ => (nz t66).bind fun _ => (fratio_Make (IntKind.i64.wrap (Int.tdiv p23 t66)) (IntKind.i64.wrap (Int.tdiv (IntKind.i64.wrap ((IntKind.i64.wrap ((2:Int) * t22)) * t24)) t66))).bind fun t77 => (if (t77.2 != (0:Int)) = true then (some ((Sapi_Ratio.mk (0:Int) (0:Int)),(5:Int))) else (some (t77.1,(0:Int)))))
set_option maxRecDepth 100000 in
set_option maxHeartbeats 4000000 in
theorem learn_Far_ok {a_ : (List Int)} {b_ : (List Int)} {r : Sapi_Ratio × Int} (h : flearn_Far a_ b_ = some r) : FnOk Tryz.prog 83 [tsl rI a_,tsl rI b_] [] (fun _ => []) (fun _ => ttup [rSapi_Ratio.ty r.1,ti r.2]) := by
 unfold flearn_Far at h
 refine FnOk.enter Tryz.func83 rfl Tryz.ntmps83 (leb rfl) (fun M0 M w0 a hpl hst => ?_)
 replace hst : St M w0 84 [(0,tsl rI a_),(1,tsl rI b_)] [] a w0 := hst
 refine sr mixed [v1 0 (fun v0 => box (rSapi_Ratio.cs (Sapi_Ratio.mk (0:Int) (0:Int))) v0)] hst (fun _ => .m [] [0] rfl rfl rfl (op_alloc (R := rSapi_Ratio) (a := (Sapi_Ratio.mk (0:Int) (0:Int))) tok129 zok129) <| .o (op_assign .k) <| .n) fun n0 a w hst => ?_
 replace hst := hst.to [0,2,3] [_,_,_] [_] rfl rfl
 refine wp_seq_k (fun K3 hK3 => ?_)
 obtain ⟨t16,ht16,h⟩ := bind_some h
 refine sr mixed [] hst (fun _ => .q 1 rfl <| .q 3 rfl <| .o (op_callF call120 (learn_both_ok ht16) (.cons (.of z1) <| .cons (.of z0) <| .nil)) <| .o (op_assign z0) <| .n) fun n1 a w hst => ?_
 replace hst := hst.to [3,4,5,6] [_,_,_,_] [_] rfl rfl
 refine sr mixed [] hst (fun _ => .q 0 rfl <| .o (op_neq z0 .k) <| .n) fun n2 a w hst => ?_
 replace hst := hst.to [1,2,3,4,5] [_,_,_,_,_] [_] rfl rfl
 refine wt hst (fun b38 => ?_) (fun b38 => ?_)
 ·replace h := ite_t b38 h
  refine sr mixed [v0 (box (rSapi_Ratio.cs (Sapi_Ratio.mk (0:Int) (0:Int))) (n0 0))] hst (fun _ => .p (T := rSapi_Ratio.ty (Sapi_Ratio.mk (0:Int) (0:Int))) rfl (op_build ud129 pl129 zv129 zc129 (.nil _)) <| .q 2 rfl <| .e [] [0] [1] rfl rfl rfl rfl (op_storeB (R := rSapi_Ratio) (a := (Sapi_Ratio.mk (0:Int) (0:Int))) tok129 z4 z1 (leb rfl)) <| .o (op_assign z0) <| .n) fun n3 a w hst => ?_
  replace hst := hst.to [2,5] [_,_] [_] rfl rfl
  refine wp_ret ?_
  obtain rfl := sj h
  exact ret_st undef [] hpl hst rfl (.cell (R := rSapi_Ratio) (u := (Sapi_Ratio.mk (0:Int) (0:Int))) tok129 z1 0 rfl rfl (.tmp z0 .nil)) rfl rfl rfl
 ·replace h := ite_f b38 h
  refine wp_skip ?_
  refine hK3 _ _ ?_
  try clear hK3 K3
  obtain ⟨t22,ht22,h⟩ := bind_some h
  obtain ⟨t24,ht24,h⟩ := bind_some h
  refine sr mixed [] hst (fun _ => .q 3 rfl <| .o (op_callF call59 (learn_sum_ok ht22) (.cons (.of z0) <| .nil)) <| .q 6 rfl <| .o (op_callF call59 (learn_sum_ok ht24) (.cons (.of z0) <| .nil)) <| .o (op_assign z2) <| .o (op_assign z1) <| .n) fun n4 a w hst => ?_
  replace hst := hst.to [4,5,8,9,10] [_,_,_,_,_] [_] rfl rfl
  refine sr mixed [] hst (fun _ => .o (op_assign .k) <| .n) fun n5 a w hst => ?_
  replace hst := hst.to [0,1,2,3,4,5] [_,_,_,_,_,_] [_] rfl rfl
  refine wp_seq_k (fun K9 hK9 => ?_)
  refine sr mixed [] hst (fun _ => .q 4 rfl <| .o (op_len ud22 z0) <| .o (op_move .k) <| .n) fun n6 a w hst => ?_
  replace hst := hst.to [1,2,3,4,5,6,7,8] [_,_,_,_,_,_,_,_] [_] rfl rfl
  obtain ⟨e12,he12,h⟩ := bind_some h
  have hJp23 : ∀ (p23 : Int) a w,p23 = e12 → St M w0 84 [(9,ti p23),(7,ti t22),(8,ti t24),(4,tv (n0 0))] [box (rSapi_Ratio.cs (Sapi_Ratio.mk (0:Int) (0:Int))) (n0 0)] a w → K9 a w := by
   intro p23 a w he hst
   subst he
   refine hK9 _ _ ?_
   try clear hK9 K9
   obtain ⟨t66,ht66,h⟩ := bind_some h
   refine sr mixed [] hst (fun _ => .q 0 rfl <| .q 2 rfl <| .o (op_mul .k z0) <| .q 5 rfl <| .o (op_mul z1 z0) <| .o (op_buildSl (R := rI) (us := [p23,(IntKind.i64.wrap ((IntKind.i64.wrap ((2:Int) * t22)) * t24))]) ud22 tok3 (.cons z4 <| .cons z0 <| .nil _) rfl (leb rfl)) <| .o (op_callF call100 (learn_gcd_ok ht66) (.cons (.of z0) <| .nil)) <| .o (op_assign z0) <| .n) fun n11 a w hst => ?_
   replace hst := hst.to [7,8,9,10,11] [_,_,_,_,_] [_] rfl rfl
   refine wp_seq_k (fun K25 hK25 => ?_)
   obtain ⟨u70,hu70,h⟩ := bind_some h
   obtain ⟨u76,hu76,h⟩ := bind_some h
   obtain ⟨t77,ht77,h⟩ := bind_some h
   refine wr mixed [v1 13 (fun v0 => box (rSapi_Ratio.cs (Sapi_Ratio.mk (0:Int) (0:Int))) v0),v1 13 (fun v0 => box (rSapi_Ratio.cs t77.1) v0)] hst (fun _ => .q 1 rfl <| .q 1 rfl <| .o (op_quo z1 z0 (nz_ne hu70)) <| .q 5 rfl <| .o (op_mul .k z0) <| .q 8 rfl <| .o (op_mul z1 z0) <| .q 7 rfl <| .o (op_quo z1 z0 (nz_ne hu76)) <| .o (op_callF call123 (ratio_Make_ok ht77) (.cons (.of z6) <| .cons (.of z0) <| .nil)) <| .q 0 rfl <| .o (op_extract z0 rfl) <| .o (op_extract z1 rfl) <| .m [] [1] rfl rfl rfl (op_alloc (R := rSapi_Ratio) (a := (Sapi_Ratio.mk (0:Int) (0:Int))) tok129 zok129) <| .e [] [1] [2] rfl rfl rfl rfl (op_storeB (R := rSapi_Ratio) (a := t77.1) tok129 z0 z2 (leb rfl)) <| .o (op_assign z1) <| .n) fun n12 a w hst => ?_
   replace hst : St _ _ _ [_,_,_] [_] _ _ := ((((hst.pick [13,14,19]).selA [1,0] rfl).shareB 0 rfl).add 0 rfl (fun _ _ _ h => h.2)).pick [0,3,4]
   refine hK25 _ _ ?_
   try clear hK25 K25
   refine wp_seq_k (fun K27 hK27 => ?_)
   refine sr mixed [] hst (fun _ => .q 1 rfl <| .o (op_neq z0 .k) <| .n) fun n13 a w hst => ?_
   replace hst := hst.to [1,2,4] [_,_,_] [_] rfl rfl
   refine wt hst (fun b31 => ?_) (fun b31 => ?_)
   ·replace h := ite_t b31 h
    refine sr mixed [v0 (box (rSapi_Ratio.cs (Sapi_Ratio.mk (0:Int) (0:Int))) (n0 0))] hst (fun _ => .p (T := rSapi_Ratio.ty (Sapi_Ratio.mk (0:Int) (0:Int))) rfl (op_build ud129 pl129 zv129 zc129 (.nil _)) <| .e [] [0] [1] rfl rfl rfl rfl (op_storeB (R := rSapi_Ratio) (a := (Sapi_Ratio.mk (0:Int) (0:Int))) tok129 z3 z0 (leb rfl)) <| .o (op_assign .k) <| .n) fun n14 a w hst => ?_
    replace hst := hst.to [1,4] [_,_] [_] rfl rfl
    refine wp_ret ?_
    obtain rfl := sj h
    exact ret_st undef [] hpl hst rfl (.cell (R := rSapi_Ratio) (u := (Sapi_Ratio.mk (0:Int) (0:Int))) tok129 z1 0 rfl rfl (.tmp z0 .nil)) rfl rfl rfl
   ·replace h := ite_f b31 h
    refine wp_skip ?_
    refine hK27 _ _ ?_
    try clear hK27 K27
    refine sr mixed [v0 (box (rSapi_Ratio.cs t77.1) (n0 0))] hst (fun _ => .o (op_load tok129 z1) <| .e [] [0] [1] rfl rfl rfl rfl (op_storeB (R := rSapi_Ratio) (a := t77.1) tok129 z3 z0 (leb rfl)) <| .o (op_assign .k) <| .n) fun n15 a w hst => ?_
    replace hst := hst.to [1,4] [_,_] [_] rfl rfl
    refine wp_ret ?_
    obtain rfl := sj h
    exact ret_st undef [] hpl hst rfl (.cell (R := rSapi_Ratio) (u := t77.1) tok129 z1 0 rfl rfl (.tmp z0 .nil)) rfl rfl rfl
  refine wp_block ?_
  refine wp_loopK _ (fun (s11 : Int × Int) a w => St M w0 84 [(26,ti (a_.length : Int)),(27,ti s11.1),(9,ti s11.2),(7,ti t22),(8,ti t24),(4,tv (n0 0)),(0,tsl rI a_),(1,tsl rI b_)] [box (rSapi_Ratio.cs (Sapi_Ratio.mk (0:Int) (0:Int))) (n0 0)] a w) _ _ he12 (hst.pick [0,1,2,3,4,5,6,7]) ?_
  clear h
  intro s11 o a w K32 hI h ho hK32
  have hst := hI
  clear hI
  refine sr mixed [] hst (fun _ => .o (op_lss z1 z0) <| .n) fun n7 a w hst => ?_
  replace hst := hst.to [0,1,2,3,4,5,6,7,8] [_,_,_,_,_,_,_,_,_] [_] rfl rfl
  refine wp_seq_k (fun K34 hK34 => ?_)
  refine wt hst (fun b37 => ?_) (fun b37 => ?_)
  ·replace h := ite_t b37 h
   refine wp_skip ?_
   refine hK34 _ _ ?_
   try clear hK34 K34
   refine wp_seq_k (fun K35 hK35 => ?_)
   refine wp_block ?_
   refine sr mixed [] hst (fun _ => .q 2 rfl <| .o (op_assign z0) <| .n) fun n8 a w hst => ?_
   replace hst := hst.to [1,3,4,5,6,7,8,9,10] [_,_,_,_,_,_,_,_,_] [_] rfl rfl
   obtain ⟨t33,ht33,h⟩ := bind_some h
   obtain ⟨t39,ht39,h⟩ := bind_some h
   obtain ⟨t46,ht46,h⟩ := bind_some h
   obtain ⟨t52,ht52,h⟩ := bind_some h
   refine wr mixed [] hst (fun _ => .q 3 rfl <| .q 8 rfl <| .q 2 rfl <| .o (op_index ud22 tok3 z1 z0 ht33) <| .o (op_load tok3 z0) <| .q 10 rfl <| .o (op_mul z1 z0) <| .q 15 rfl <| .q 8 rfl <| .o (op_index ud22 tok3 z1 z0 ht39) <| .o (op_load tok3 z0) <| .q 15 rfl <| .o (op_mul z1 z0) <| .o (op_sub z6 z0) <| .q 22 rfl <| .q 15 rfl <| .o (op_index ud22 tok3 z1 z0 ht46) <| .o (op_load tok3 z0) <| .q 22 rfl <| .o (op_mul z1 z0) <| .q 27 rfl <| .q 21 rfl <| .o (op_index ud22 tok3 z1 z0 ht52) <| .o (op_load tok3 z0) <| .q 29 rfl <| .o (op_mul z1 z0) <| .o (op_sub z6 z0) <| .o (op_max z13 z0) <| .o (op_add z27 z0) <| .o (op_assign z0) <| .n) fun n9 a w hst => ?_
   replace hst := hst.to [29,31,32,33,34,35,36,37] [_,_,_,_,_,_,_,_] [_] rfl rfl
   refine hK35 _ _ ?_
   try clear hK35 K35
   refine wr mixed [] hst (fun _ => .o (op_add z2 .k) <| .q 0 rfl <| .n) fun n10 a w hst => ?_
   replace hst := hst.to [1,2,3,4,5,6,7,8] [_,_,_,_,_,_,_,_] [_] rfl rfl
   exact hK32 _ _ _ (sj h).symm (hst.pick [2,0,1,3,4,5,6,7])
  ·replace h := ite_f b37 h
   refine wp_exit ?_
   exact hJp23 _ _ _ (ho _ (sj h).symm) (hst.pick [3,4,5,6])

/- diorama/dioramaref01.SameInts -/
noncomputable def fref01_SameInts (a_ : (List Int)) (b_ : (List Int)) : Option (Bool) := (if ((a_.length : Int) != (b_.length : Int)) = true then (some false) else (tailrec (fun (s7 : Int) => ((if (decide (s7 < (a_.length : Int))) = true then (idx a_ s7).bind fun t19 => (idx b_ s7).bind fun t23 => (if (t19 != t23) = true then (some (.inr (.inr false))) else (some (.inl (IntKind.i64.wrap (s7 + (1:Int)))))) else (some (.inr (.inl ())))) : Option ((Int) ⊕ ((Unit) ⊕ (Bool))))) (0:Int)).bind fun (e8 : (Unit) ⊕ (Bool)) => (match e8 with | .inl _ => (some true) | .inr p24 => (some p24)))
set_option maxRecDepth 100000 in
set_option maxHeartbeats 4000000 in
theorem ref01_SameInts_ok {a_ : (List Int)} {b_ : (List Int)} {r : Bool} (h : fref01_SameInts a_ b_ = some r) : FnOk Tryz.prog 84 [tsl rI a_,tsl rI b_] [] (fun _ => []) (fun _ => tb r) := by
 unfold fref01_SameInts at h
 refine FnOk.enter Tryz.func84 rfl Tryz.ntmps84 (leb rfl) (fun M0 M w0 a hpl hst => ?_)
 replace hst : St M w0 26 [(0,tsl rI a_),(1,tsl rI b_)] [] a w0 := hst
 refine sr mixed [] hst (fun _ => .o (op_assign .k) <| .n) fun n0 a w hst => ?_
 replace hst := hst.to [1,2] [_,_] [] rfl rfl
 refine wp_seq_k (fun K2 hK2 => ?_)
 refine sr mixed [] hst (fun _ => .q 0 rfl <| .o (op_len ud22 z0) <| .q 3 rfl <| .o (op_len ud22 z0) <| .o (op_neq z2 z0) <| .n) fun n1 a w hst => ?_
 replace hst := hst.to [4,5,6] [_,_,_] [] rfl rfl
 refine wt hst (fun b34 => ?_) (fun b34 => ?_)
 ·replace h := ite_t b34 h
  refine sr mixed [] hst (fun _ => .o (op_assign .k) <| .n) fun n2 a w hst => ?_
  replace hst := hst.to [0] [_] [] rfl rfl
  refine wp_ret ?_
  obtain rfl := sj h
  exact ret_st undef [] hpl hst rfl (.tmp z0 .nil) rfl rfl rfl
 ·replace h := ite_f b34 h
  refine wp_skip ?_
  refine hK2 _ _ ?_
  try clear hK2 K2
  refine wp_seq_k (fun K5 hK5 => ?_)
  refine sr mixed [] hst (fun _ => .o (op_assign .k) <| .n) fun n3 a w hst => ?_
  replace hst := hst.to [0,2,3] [_,_,_] [] rfl rfl
  obtain ⟨e8,he8,h⟩ := bind_some h
  have hJp23 : ∀ (p23 : Unit) a w,(.inl p23) = e8 → St M w0 26 [] [] a w → K5 a w := by
   intro p23 a w he hst
   subst he
   simp only at h
   refine hK5 _ _ ?_
   try clear hK5 K5
   refine sr mixed [] hst (fun _ => .o (op_assign .k) <| .n) fun n8 a w hst => ?_
   replace hst := hst.to [0] [_] [] rfl rfl
   refine wp_ret ?_
   obtain rfl := sj h
   exact ret_st undef [] hpl hst rfl (.tmp z0 .nil) rfl rfl rfl
  have hJp24 : ∀ (p24 : Bool) a w,(.inr p24) = e8 → St M w0 26 [(4,tb p24)] [] a w → Ret Tryz.prog Tryz.f84 M0 [] w0 (fun _ => []) (fun _ => tb r) .ret a w := by
   intro p24 a w he hst
   subst he
   simp only at h
   obtain rfl := sj h
   exact ret_st undef [] hpl hst rfl (.tmp z0 .nil) rfl rfl rfl
  refine wp_block ?_
  refine wp_loopK _ (fun (s7 : Int) a w => St M w0 26 [(5,ti s7),(0,tsl rI a_),(1,tsl rI b_)] [] a w) _ _ he8 (hst.pick [0,1,2]) ?_
  clear h
  intro s7 o a w K26 hI h ho hK26
  have hst := hI
  clear hI
  refine wp_seq_k (fun K27 hK27 => ?_)
  refine sr mixed [] hst (fun _ => .q 0 rfl <| .q 2 rfl <| .o (op_len ud22 z0) <| .o (op_lss z2 z0) <| .n) fun n4 a w hst => ?_
  replace hst := hst.to [3,4,5,6] [_,_,_,_] [] rfl rfl
  refine wt hst (fun b33 => ?_) (fun b33 => ?_)
  ·replace h := ite_t b33 h
   refine wp_skip ?_
   refine hK27 _ _ ?_
   try clear hK27 K27
   refine wp_seq_k (fun K29 hK29 => ?_)
   refine wp_block ?_
   obtain ⟨t19,ht19,h⟩ := bind_some h
   obtain ⟨t23,ht23,h⟩ := bind_some h
   refine sr mixed [] hst (fun _ => .q 2 rfl <| .q 2 rfl <| .o (op_index ud22 tok3 z1 z0 ht19) <| .o (op_load tok3 z0) <| .q 7 rfl <| .q 6 rfl <| .o (op_index ud22 tok3 z1 z0 ht23) <| .o (op_load tok3 z0) <| .o (op_neq z4 z0) <| .n) fun n6 a w hst => ?_
   replace hst := hst.to [8,10,11,12] [_,_,_,_] [] rfl rfl
   refine wt hst (fun b32 => ?_) (fun b32 => ?_)
   ·replace h := ite_t b32 h
    refine sr mixed [] hst (fun _ => .o (op_assign .k) <| .n) fun n7 a w hst => ?_
    replace hst := hst.to [0] [_] [] rfl rfl
    refine wp_ret ?_
    exact hJp24 _ _ _ (ho _ (sj h).symm) (hst.pick [0])
   ·replace h := ite_f b32 h
    refine wp_skip ?_
    refine hK29 _ _ ?_
    try clear hK29 K29
    refine wr mixed [] hst (fun _ => .q 1 rfl <| .o (op_add z0 .k) <| .o (op_assign z0) <| .n) fun n5 a w hst => ?_
    replace hst := hst.to [2,4,5] [_,_,_] [] rfl rfl
    exact hK26 _ _ _ (sj h).symm (hst.pick [0,1,2])
  ·replace h := ite_f b33 h
   refine wp_exit ?_
   exact hJp23 _ _ _ (ho _ (sj h).symm) (hst.pick [])

/- diorama/dioramalaw27.lives -/
noncomputable def flaw27_lives  : Option (Bool) := (flearn_Weights [(4:Int),(0:Int),(6:Int)] (0:Int)).bind fun t13 => (flearn_Weights [(4:Int),(0:Int),(6:Int)] (1:Int)).bind fun t18 => (flearn_Blend [(1:Int),(0:Int)] [(1:Int),(3:Int)] (Sapi_Ratio.mk (1:Int) (2:Int))).bind fun t25 => (flearn_Far [(1:Int),(0:Int)] [(1:Int),(3:Int)]).bind fun t31 => (flearn_Far [(1:Int),(0:Int)] [(5:Int),(3:Int)]).bind fun t37 => (opt ((((((t13.2 == (0:Int)) && (t18.2 == (0:Int))) && (t25.2 == (0:Int))) && (t31.2 == (0:Int))) && (t37.2 == (0:Int))) == true) (fref01_SameInts t13.1 [(2:Int),(0:Int),(3:Int)]) default).bind fun t61 => (opt (((((((t13.2 == (0:Int)) && (t18.2 == (0:Int))) && (t25.2 == (0:Int))) && (t31.2 == (0:Int))) && (t37.2 == (0:Int))) && t61) == true) (fref01_SameInts t18.1 [(5:Int),(1:Int),(7:Int)]) default).bind fun t66 => (opt ((((((((t13.2 == (0:Int)) && (t18.2 == (0:Int))) && (t25.2 == (0:Int))) && (t31.2 == (0:Int))) && (t37.2 == (0:Int))) && t61) && t66) == true) (fref01_SameInts t25.1 [(5:Int),(3:Int)]) default).bind fun t71 => (some ((((((((((t13.2 == (0:Int)) && (t18.2 == (0:Int))) && (t25.2 == (0:Int))) && (t31.2 == (0:Int))) && (t37.2 == (0:Int))) && t61) && t66) && t71) && (eqSapi_Ratio t31.1 (Sapi_Ratio.mk (3:Int) (4:Int)))) && (eqSapi_Ratio t37.1 (Sapi_Ratio.mk (3:Int) (8:Int)))))
set_option maxRecDepth 100000 in
set_option maxHeartbeats 4000000 in
theorem law27_lives_ok {r : Bool} (h : flaw27_lives  = some r) : FnOk Tryz.prog 29 [] [] (fun _ => []) (fun _ => tb r) := by
 unfold flaw27_lives at h
 refine FnOk.enter Tryz.func29 rfl Tryz.ntmps29 (leb rfl) (fun M0 M w0 a hpl hst => ?_)
 replace hst : St M w0 83 [] [] a w0 := hst
 refine sr mixed [] hst (fun _ => .o (op_assign .k) <| .n) fun n0 a w hst => ?_
 replace hst := hst.to [] [] [] rfl rfl
 obtain ⟨t13,ht13,h⟩ := bind_some h
 refine sr mixed [] hst (fun _ => .o (op_buildSl (R := rI) (us := [(4:Int),(0:Int),(6:Int)]) ud22 tok3 (.cons .k <| .cons .k <| .cons .k <| .nil _) rfl (leb rfl)) <| .o (op_callF call81 (learn_Weights_ok ht13) (.cons (.of z0) <| .cons (.of .k) <| .nil)) <| .q 0 rfl <| .o (op_extract z0 rfl) <| .o (op_extract z1 rfl) <| .o (op_assign z1) <| .o (op_assign z1) <| .n) fun n1 a w hst => ?_
 replace hst := hst.to [5,6] [_,_] [] rfl rfl
 obtain ⟨t18,ht18,h⟩ := bind_some h
 refine sr mixed [] hst (fun _ => .o (op_buildSl (R := rI) (us := [(4:Int),(0:Int),(6:Int)]) ud22 tok3 (.cons .k <| .cons .k <| .cons .k <| .nil _) rfl (leb rfl)) <| .o (op_callF call81 (learn_Weights_ok ht18) (.cons (.of z0) <| .cons (.of .k) <| .nil)) <| .q 0 rfl <| .o (op_extract z0 rfl) <| .o (op_extract z1 rfl) <| .o (op_assign z1) <| .o (op_assign z1) <| .n) fun n2 a w hst => ?_
 replace hst := hst.to [5,6,7,8] [_,_,_,_] [] rfl rfl
 obtain ⟨t25,ht25,h⟩ := bind_some h
 refine sr mixed [] hst (fun _ => .o (op_buildSl (R := rI) (us := [(1:Int),(0:Int)]) ud22 tok3 (.cons .k <| .cons .k <| .nil _) rfl (leb rfl)) <| .o (op_buildSl (R := rI) (us := [(1:Int),(3:Int)]) ud22 tok3 (.cons .k <| .cons .k <| .nil _) rfl (leb rfl)) <| .p (T := rSapi_Ratio.ty (Sapi_Ratio.mk (1:Int) (2:Int))) rfl (op_build ud129 pl129 zv129 zc129 (.cons (R := rI) (u := (1:Int)) rfl .k (leb rfl) <| .cons (R := rI) (u := (2:Int)) rfl .k (leb rfl) <| .nil _)) <| .o (op_callF call82 (learn_Blend_ok ht25) (.cons (.of z2) <| .cons (.of z1) <| .cons (.of z0) <| .nil)) <| .q 0 rfl <| .o (op_extract z0 rfl) <| .o (op_extract z1 rfl) <| .o (op_assign z1) <| .o (op_assign z1) <| .n) fun n3 a w hst => ?_
 replace hst := hst.to [7,8,9,10,11,12] [_,_,_,_,_,_] [] rfl rfl
 obtain ⟨t31,ht31,h⟩ := bind_some h
 refine sr mixed [v1 6 (fun v0 => box (rSapi_Ratio.cs (Sapi_Ratio.mk (0:Int) (0:Int))) v0),v1 6 (fun v0 => box (rSapi_Ratio.cs t31.1) v0)] hst (fun _ => .o (op_buildSl (R := rI) (us := [(1:Int),(0:Int)]) ud22 tok3 (.cons .k <| .cons .k <| .nil _) rfl (leb rfl)) <| .o (op_buildSl (R := rI) (us := [(1:Int),(3:Int)]) ud22 tok3 (.cons .k <| .cons .k <| .nil _) rfl (leb rfl)) <| .o (op_callF call83 (learn_Far_ok ht31) (.cons (.of z1) <| .cons (.of z0) <| .nil)) <| .q 0 rfl <| .o (op_extract z0 rfl) <| .o (op_extract z1 rfl) <| .m [] [0] rfl rfl rfl (op_alloc (R := rSapi_Ratio) (a := (Sapi_Ratio.mk (0:Int) (0:Int))) tok129 zok129) <| .e [] [0] [1] rfl rfl rfl rfl (op_storeB (R := rSapi_Ratio) (a := t31.1) tok129 z0 z2 (leb rfl)) <| .o (op_assign z1) <| .n) fun n4 a w hst => ?_
 replace hst : St _ _ _ [_,_,_,_,_,_,_,_] [] _ _ := (((hst.pick [6,7,8,9,10,11,12,13]).shareB 0 rfl).add 0 rfl (fun _ _ _ h => h.2)).pick [0,3,4,5,6,7,8,9]
 obtain ⟨t37,ht37,h⟩ := bind_some h
 refine sr mixed [v1 6 (fun v0 => box (rSapi_Ratio.cs (Sapi_Ratio.mk (0:Int) (0:Int))) v0),v1 6 (fun v0 => box (rSapi_Ratio.cs t37.1) v0)] hst (fun _ => .o (op_buildSl (R := rI) (us := [(1:Int),(0:Int)]) ud22 tok3 (.cons .k <| .cons .k <| .nil _) rfl (leb rfl)) <| .o (op_buildSl (R := rI) (us := [(5:Int),(3:Int)]) ud22 tok3 (.cons .k <| .cons .k <| .nil _) rfl (leb rfl)) <| .o (op_callF call83 (learn_Far_ok ht37) (.cons (.of z1) <| .cons (.of z0) <| .nil)) <| .q 0 rfl <| .o (op_extract z0 rfl) <| .o (op_extract z1 rfl) <| .m [] [0] rfl rfl rfl (op_alloc (R := rSapi_Ratio) (a := (Sapi_Ratio.mk (0:Int) (0:Int))) tok129 zok129) <| .e [] [0] [1] rfl rfl rfl rfl (op_storeB (R := rSapi_Ratio) (a := t37.1) tok129 z0 z2 (leb rfl)) <| .o (op_assign z1) <| .n) fun n5 a w hst => ?_
 replace hst : St _ _ _ [_,_,_,_,_,_,_,_,_,_] [] _ _ := (((hst.pick [6,7,8,9,10,11,12,13,14,15]).shareB 0 rfl).add 0 rfl (fun _ _ _ h => h.2)).pick [0,3,4,5,6,7,8,9,10,11]
 obtain ⟨t61,ht61,h⟩ := bind_some h
 obtain ⟨t66,ht66,h⟩ := bind_some h
 obtain ⟨t71,ht71,h⟩ := bind_some h
 refine sr mixed [] hst (fun _ => .q 9 rfl <| .o (op_eql z0 .k) <| .q 0 rfl <| .g rfl rfl (.b 0 rfl) (fun _ => op_move z10) <| .g rfl rfl (.b 1 rfl) (fun hc => op_eql (.cond z0 hc) .k) <| .o (op_and z2 (fun hp => (.cond z0 (beqT hp)))) <| .q 0 rfl <| .g rfl rfl (.b 0 rfl) (fun _ => op_move z12) <| .g rfl rfl (.b 1 rfl) (fun hc => op_eql (.cond z0 hc) .k) <| .o (op_and z2 (fun hp => (.cond z0 (beqT hp)))) <| .q 0 rfl <| .g rfl rfl (.b 0 rfl) (fun _ => op_move z14) <| .g rfl rfl (.b 1 rfl) (fun hc => op_eql (.cond z0 hc) .k) <| .o (op_and z2 (fun hp => (.cond z0 (beqT hp)))) <| .q 0 rfl <| .g rfl rfl (.b 0 rfl) (fun _ => op_move z16) <| .g rfl rfl (.b 1 rfl) (fun hc => op_eql (.cond z0 hc) .k) <| .o (op_and z2 (fun hp => (.cond z0 (beqT hp)))) <| .q 0 rfl <| .g rfl rfl (.b 0 rfl) (fun _ => op_move z27) <| .g rfl rfl (.b 1 rfl) (fun _ => op_buildSl (R := rI) (us := [(2:Int),(0:Int),(3:Int)]) ud22 tok3 (.cons .k <| .cons .k <| .cons .k <| .nil _) rfl (leb rfl)) <| .g rfl rfl (.b 2 rfl) (fun hc => op_callF call84 (ref01_SameInts_ok (opt_t ht61 hc)) (.cons (.of (.cond z1 hc)) <| .cons (.of (.cond z0 hc)) <| .nil)) <| .o (op_and z3 (fun hp => (.cond z0 (beqT hp)))) <| .q 0 rfl <| .g rfl rfl (.b 0 rfl) (fun _ => op_move z30) <| .g rfl rfl (.b 1 rfl) (fun _ => op_buildSl (R := rI) (us := [(5:Int),(1:Int),(7:Int)]) ud22 tok3 (.cons .k <| .cons .k <| .cons .k <| .nil _) rfl (leb rfl)) <| .g rfl rfl (.b 2 rfl) (fun hc => op_callF call84 (ref01_SameInts_ok (opt_t ht66 hc)) (.cons (.of (.cond z1 hc)) <| .cons (.of (.cond z0 hc)) <| .nil)) <| .o (op_and z3 (fun hp => (.cond z0 (beqT hp)))) <| .q 0 rfl <| .g rfl rfl (.b 0 rfl) (fun _ => op_move (.t 33 rfl)) <| .g rfl rfl (.b 1 rfl) (fun _ => op_buildSl (R := rI) (us := [(5:Int),(3:Int)]) ud22 tok3 (.cons .k <| .cons .k <| .nil _) rfl (leb rfl)) <| .g rfl rfl (.b 2 rfl) (fun hc => op_callF call84 (ref01_SameInts_ok (opt_t ht71 hc)) (.cons (.of (.cond z1 hc)) <| .cons (.of (.cond z0 hc)) <| .nil)) <| .o (op_and z3 (fun hp => (.cond z0 (beqT hp)))) <| .q 0 rfl <| .g rfl rfl (.b 0 rfl) (fun _ => op_load tok129 (.t 36 rfl)) <| .g (T := rSapi_Ratio.ty (Sapi_Ratio.mk (3:Int) (4:Int))) rfl rfl (.b 1 rfl) (fun _ => op_build ud129 pl129 zv129 zc129 (.cons (R := rI) (u := (3:Int)) rfl .k (leb rfl) <| .cons (R := rI) (u := (4:Int)) rfl .k (leb rfl) <| .nil _)) <| .g rfl rfl (.b 2 rfl) (fun hc => op_eql_t129 (.cond z1 hc) (.cond z0 hc)) <| .o (op_and z3 (fun hp => (.cond z0 (beqT hp)))) <| .q 0 rfl <| .g rfl rfl (.b 0 rfl) (fun _ => op_load tok129 (.t 39 rfl)) <| .g (T := rSapi_Ratio.ty (Sapi_Ratio.mk (3:Int) (8:Int))) rfl rfl (.b 1 rfl) (fun _ => op_build ud129 pl129 zv129 zc129 (.cons (R := rI) (u := (3:Int)) rfl .k (leb rfl) <| .cons (R := rI) (u := (8:Int)) rfl .k (leb rfl) <| .nil _)) <| .g rfl rfl (.b 2 rfl) (fun hc => op_eql_t129 (.cond z1 hc) (.cond z0 hc)) <| .o (op_and z3 (fun hp => (.cond z0 (beqT hp)))) <| .o (op_assign z0) <| .n) fun n6 a w hst => ?_
 replace hst := hst.to [43] [_] [] rfl rfl
 refine wp_ret ?_
 obtain rfl := sj h
 exact ret_st undef [] hpl hst rfl (.tmp z0 .nil) rfl rfl rfl

/- diorama/dioramalaw27.LearnFits -/
noncomputable def flaw27_LearnFits (l_ : (List Int)) (kind_ : Int) (field_ : Int) (m_ : (List Int)) (at_ : Int) (by_ : Int) : Option (Bool) := (fref09_Schema l_).bind fun t29 => (tailrec (fun (s6 : Int) => ((if (decide (s6 ≤ ((t29).Kinds.length : Int))) = true then (tailrec (fun (s251 : Int) => ((if (decide (s251 ≤ (10:Int))) = true then (fref10_Has t29 s6 s251).bind fun t44 => ((if t44 = true then (idx (t29).Kinds s6).bind fun t48 => (idx (t48).Fields s251).bind fun t52 => (some ((t52).Words.length : Int)) else (some (2:Int)))).bind fun (p302 : Int) => (fref27_Made m_ p302 (9:Int)).bind fun t58 => (flaw27_odd t58 at_ by_).bind fun t63 => (mk p302 (0:Int)).bind fun t65 => (tailrec (fun (s307 : Int) => ((if (decide (s307 < ([t58,t63,t65].length : Int))) = true then (idx [t58,t63,t65] s307).bind fun t79 => (flearn_Fit t29 s6 s251 t79).bind fun t81 => (idx [t58,t63,t65] s307).bind fun t90 => (fref27_Fit t29 s6 s251 t90).bind fun t92 => (opt ((t81.2 != t92.2) == false) (fschema_Same t81.1 t92.1) default).bind fun t101 => (opt ((((t81.2 != t92.2) || (!t101)) == false) && ((t81.2 == (0:Int)) == true)) (fschema_Valid t81.1) default).bind fun t109 => (opt (((((t81.2 != t92.2) || (!t101)) == false) && ((t81.2 == (0:Int)) == true)) && ((t109 != (0:Int)) == false)) (ftyping_Check t81.1) default).bind fun t113 => (opt (((((t81.2 != t92.2) || (!t101)) == false) && ((t81.2 == (0:Int)) == true)) && ((t109 != (0:Int)) == false)) (ftyping_Check t29) default).bind fun t116 => (if (((t81.2 != t92.2) || (!t101)) || ((t81.2 == (0:Int)) && ((t109 != (0:Int)) || (decide ((t113.length : Int) > (t116.length : Int)))))) = true then (some (.inr (.inr false))) else (some (.inl (IntKind.i64.wrap (s307 + (1:Int)))))) else (some (.inr (.inl ())))) : Option ((Int) ⊕ ((Unit) ⊕ (Bool))))) (0:Int)).bind fun (e308 : (Unit) ⊕ (Bool)) => (match e308 with | .inl _ => (some (.inl (IntKind.i64.wrap (s251 + (1:Int))))) | .inr p321 => (some (.inr (.inr p321)))) else (some (.inr (.inl ())))) : Option ((Int) ⊕ ((Unit) ⊕ (Bool))))) (-1:Int)).bind fun (e252 : (Unit) ⊕ (Bool)) => (match e252 with | .inl _ => (some (.inl (IntKind.i64.wrap (s6 + (1:Int))))) | .inr p294 => (some (.inr (.inr p294)))) else (some (.inr (.inl ())))) : Option ((Int) ⊕ ((Unit) ⊕ (Bool))))) (-1:Int)).bind fun (e7 : (Unit) ⊕ (Bool)) => (match e7 with | .inl _ => (flearn_Fit t29 kind_ field_ ([] : (List Int))).bind fun t126 => (fref27_Fit t29 kind_ field_ ([] : (List Int))).bind fun t133 => (opt ((t126.2 == t133.2) == true) (flaw27_lives) default).bind fun t140 => (some ((t126.2 == t133.2) && t140)) | .inr p240 => (some p240))
set_option maxRecDepth 100000 in
set_option maxHeartbeats 4000000 in
theorem law27_LearnFits_ok {l_ : (List Int)} {kind_ : Int} {field_ : Int} {m_ : (List Int)} {at_ : Int} {by_ : Int} {r : Bool} (h : flaw27_LearnFits l_ kind_ field_ m_ at_ by_ = some r) : FnOk Tryz.prog 6 [tsl rI l_,ti kind_,ti field_,tsl rI m_,ti at_,ti by_] [glo] (fun _ => []) (fun _ => tb r) := by
 unfold flaw27_LearnFits at h
 refine FnOk.enter Tryz.func6 rfl Tryz.ntmps6 (leb rfl) (fun M0 M w0 a hpl hst => ?_)
 replace hst : St M w0 142 [(0,tsl rI l_),(1,ti kind_),(2,ti field_),(3,tsl rI m_),(4,ti at_),(5,ti by_)] [glo] a w0 := hst
 refine sr mixed [] hst (fun _ => .o (op_assign .k) <| .n) fun n0 a w hst => ?_
 replace hst := hst.to [1,2,3,4,5,6] [_,_,_,_,_,_] [_] rfl rfl
 obtain ⟨t29,ht29,h⟩ := bind_some h
 refine sr mixed [v1 2 (fun v0 => box (rSapi_Schema.cs zz4) v0),v1 2 (fun v0 => box (rSapi_Schema.cs t29) v0)] hst (fun _ => .q 0 rfl <| .o (op_callF call22 (ref09_Schema_ok ht29) (.cons (.of z0) <| .nil)) <| .m [] [1] rfl rfl rfl (op_alloc (R := rSapi_Schema) (a := zz4) tok34 zok34) <| .e [] [1] [2] rfl rfl rfl rfl (op_storeB (R := rSapi_Schema) (a := t29) tok34 z0 z1 (leb rfl)) <| .n) fun n1 a w hst => ?_
 replace hst : St _ _ _ [_,_,_,_,_,_] [_] _ _ := ((((hst.pick [2,4,5,6,7,8]).selA [1,0] rfl).shareB 0 rfl).add 0 rfl (fun _ _ _ h => h.2)).pick [0,3,4,5,6,7]
 refine wp_seq_k (fun K4 hK4 => ?_)
 refine sr mixed [] hst (fun _ => .o (op_assign .k) <| .n) fun n2 a w hst => ?_
 replace hst := hst.to [0,1,2,3,4,5,6] [_,_,_,_,_,_,_] [_] rfl rfl
 obtain ⟨e7,he7,h⟩ := bind_some h
 have hJp239 : ∀ (p239 : Unit) a w,(.inl p239) = e7 → St M w0 142 [(13,tptr (rSapi_Schema.cs t29)),(1,ti kind_),(2,ti field_)] [glo] a w → K4 a w := by
  intro p239 a w he hst
  subst he
  simp only at h
  refine hK4 _ _ ?_
  try clear hK4 K4
  obtain ⟨t126,ht126,h⟩ := bind_some h
  refine sr mixed [v1 7 (fun v0 => box (rSapi_Schema.cs zz4) v0),v1 7 (fun v0 => box (rSapi_Schema.cs t126.1) v0)] hst (fun _ => .o (op_load tok34 z0) <| .q 2 rfl <| .q 4 rfl <| .o (op_callF call25 (learn_Fit_ok ht126) (.cons (.of z2) <| .cons (.of z1) <| .cons (.of z0) <| .cons (.of .nilsl) <| .nil)) <| .q 0 rfl <| .o (op_extract z0 rfl) <| .o (op_extract z1 rfl) <| .m [] [1] rfl rfl rfl (op_alloc (R := rSapi_Schema) (a := zz4) tok34 zok34) <| .e [] [1] [2] rfl rfl rfl rfl (op_storeB (R := rSapi_Schema) (a := t126.1) tok34 z0 z2 (leb rfl)) <| .o (op_assign z1) <| .n) fun n20 a w hst => ?_
  replace hst : St _ _ _ [_,_,_,_] [_] _ _ := (hst.pick [8,9,10,11]).selA [0] rfl
  obtain ⟨t133,ht133,h⟩ := bind_some h
  refine sr mixed [v1 7 (fun v0 => box (rSapi_Schema.cs zz4) v0),v1 7 (fun v0 => box (rSapi_Schema.cs t133.1) v0)] hst (fun _ => .o (op_load tok34 z1) <| .q 3 rfl <| .q 5 rfl <| .o (op_callF call26 (ref27_Fit_ok ht133) (.cons (.of z2) <| .cons (.of z1) <| .cons (.of z0) <| .cons (.of .nilsl) <| .nil)) <| .q 0 rfl <| .o (op_extract z0 rfl) <| .o (op_extract z1 rfl) <| .m [] [1] rfl rfl rfl (op_alloc (R := rSapi_Schema) (a := zz4) tok34 zok34) <| .e [] [1] [2] rfl rfl rfl rfl (op_storeB (R := rSapi_Schema) (a := t133.1) tok34 z0 z2 (leb rfl)) <| .o (op_assign z1) <| .n) fun n21 a w hst => ?_
  replace hst : St _ _ _ [_,_] [_] _ _ := (hst.pick [8,9]).selA [0] rfl
  obtain ⟨t140,ht140,h⟩ := bind_some h
  refine sr mixed [] hst (fun _ => .q 1 rfl <| .q 1 rfl <| .o (op_eql z1 z0) <| .q 0 rfl <| .g rfl rfl (.b 0 rfl) (fun hc => op_callF call29 (law27_lives_ok (opt_t ht140 hc)) (.nil)) <| .o (op_and z1 (fun hp => (.cond z0 (beqT hp)))) <| .o (op_assign z0) <| .n) fun n22 a w hst => ?_
  replace hst := hst.to [6] [_] [_] rfl rfl
  refine wp_ret ?_
  obtain rfl := sj h
  exact ret_st undef [] hpl hst rfl (.tmp z0 .nil) rfl rfl rfl
 have hJp240 : ∀ (p240 : Bool) a w,(.inr p240) = e7 → St M w0 142 [(12,tb p240)] [glo] a w → Ret Tryz.prog Tryz.f6 M0 [glo] w0 (fun _ => []) (fun _ => tb r) .ret a w := by
  intro p240 a w he hst
  subst he
  simp only at h
  obtain rfl := sj h
  exact ret_st undef [] hpl hst rfl (.tmp z0 .nil) rfl rfl rfl
 refine wp_block ?_
 refine wp_loopK _ (fun (s6 : Int) a w => St M w0 142 [(14,ti s6),(13,tptr (rSapi_Schema.cs t29)),(1,ti kind_),(2,ti field_),(3,tsl rI m_),(4,ti at_),(5,ti by_)] [glo] a w) _ _ he7 (hst.pick [0,1,2,3,4,5,6]) ?_
 clear h
 intro s6 o a w K246 hI h ho hK246
 have hst := hI
 clear hI
 refine wp_seq_k (fun K247 hK247 => ?_)
 refine sr mixed [] hst (fun _ => .q 0 rfl <| .o (op_field fld34_1 z2) <| .o (op_loadT (R := (rSl rSapi_Kind)) (u := (t29).Kinds) tok30 z0 rfl) <| .o (op_len ud30 z0) <| .o (op_leq z3 z0) <| .n) fun n3 a w hst => ?_
 replace hst := hst.to [4,5,6,7,8,9,10,11] [_,_,_,_,_,_,_,_] [_] rfl rfl
 refine wt hst (fun b336 => ?_) (fun b336 => ?_)
 ·replace h := ite_t b336 h
  refine wp_skip ?_
  refine hK247 _ _ ?_
  try clear hK247 K247
  refine wp_seq_k (fun K249 hK249 => ?_)
  refine wp_block ?_
  refine sr mixed [] hst (fun _ => .o (op_assign .k) <| .n) fun n5 a w hst => ?_
  replace hst := hst.to [0,2,3,4,5,6,7,8] [_,_,_,_,_,_,_,_] [_] rfl rfl
  obtain ⟨e252,he252,h⟩ := bind_some h
  have hJp293 : ∀ (p293 : Unit) a w,(.inl p293) = e252 → St M w0 142 [(14,ti s6),(13,tptr (rSapi_Schema.cs t29)),(1,ti kind_),(2,ti field_),(3,tsl rI m_),(4,ti at_),(5,ti by_)] [glo] a w → K249 a w := by
   intro p293 a w he hst
   subst he
   simp only at h
   refine hK249 _ _ ?_
   try clear hK249 K249
   refine wr mixed [] hst (fun _ => .q 0 rfl <| .o (op_add z0 .k) <| .o (op_assign z0) <| .n) fun n4 a w hst => ?_
   replace hst := hst.to [2,3,4,5,6,7,8] [_,_,_,_,_,_,_] [_] rfl rfl
   exact hK246 _ _ _ (sj h).symm (hst.pick [0,1,2,3,4,5,6])
  have hJp294 : ∀ (p294 : Bool) a w,(.inr p294) = e252 → St M w0 142 [(12,tb p294)] [glo] a w → Ret Tryz.prog Tryz.f6 M0 [glo] w0 (fun _ => []) (fun _ => tb r) .ret a w := by
   intro p294 a w he hst
   subst he
   simp only at h
   exact hJp240 _ _ _ (ho _ (sj h).symm) (hst.pick [0])
  refine wp_block ?_
  refine wp_loopK _ (fun (s251 : Int) a w => St M w0 142 [(15,ti s251),(14,ti s6),(13,tptr (rSapi_Schema.cs t29)),(1,ti kind_),(2,ti field_),(3,tsl rI m_),(4,ti at_),(5,ti by_)] [glo] a w) _ _ he252 (hst.pick [0,1,2,3,4,5,6,7]) ?_
  clear h
  intro s251 o a w K295 hI h ho hK295
  have hst := hI
  clear hI
  refine wp_seq_k (fun K296 hK296 => ?_)
  refine sr mixed [] hst (fun _ => .q 0 rfl <| .o (op_leq z0 .k) <| .n) fun n6 a w hst => ?_
  replace hst := hst.to [1,2,3,4,5,6,7,8,9] [_,_,_,_,_,_,_,_,_] [_] rfl rfl
  refine wt hst (fun b335 => ?_) (fun b335 => ?_)
  ·replace h := ite_t b335 h
   refine wp_skip ?_
   refine hK296 _ _ ?_
   try clear hK296 K296
   refine wp_seq_k (fun K298 hK298 => ?_)
   refine wp_block ?_
   refine sr mixed [] hst (fun _ => .o (op_assign .k) <| .n) fun n8 a w hst => ?_
   replace hst := hst.to [0,2,3,4,5,6,7,8,9] [_,_,_,_,_,_,_,_,_] [_] rfl rfl
   refine wp_seq_k (fun K300 hK300 => ?_)
   obtain ⟨t44,ht44,h⟩ := bind_some h
   refine sr mixed [] hst (fun _ => .o (op_load tok34 z3) <| .q 3 rfl <| .q 3 rfl <| .o (op_callF call17 (ref10_Has_ok ht44) (.cons (.of z2) <| .cons (.of z1) <| .cons (.of z0) <| .nil)) <| .n) fun n9 a w hst => ?_
   replace hst := hst.to [3,4,5,6,7,8,9,10,11,12] [_,_,_,_,_,_,_,_,_,_] [_] rfl rfl
   obtain ⟨p302,hp302,h⟩ := bind_some h
   have hJp302 : ∀ a w,St M w0 142 [(16,ti p302),(15,ti s251),(14,ti s6),(13,tptr (rSapi_Schema.cs t29)),(1,ti kind_),(2,ti field_),(3,tsl rI m_),(4,ti at_),(5,ti by_)] [glo] a w → K300 a w := by
    intro a w hst
    refine hK300 _ _ ?_
    try clear hK300 K300
    obtain ⟨t58,ht58,h⟩ := bind_some h
    refine sr mixed [] hst (fun _ => .q 6 rfl <| .q 1 rfl <| .o (op_callF call23 (ref27_Made_ok ht58) (.cons (.of z1) <| .cons (.of z0) <| .cons (.of .k) <| .nil)) <| .o (op_assign z0) <| .n) fun n11 a w hst => ?_
    replace hst := hst.to [3,4,5,6,7,8,9,10,11,12] [_,_,_,_,_,_,_,_,_,_] [_] rfl rfl
    obtain ⟨t63,ht63,h⟩ := bind_some h
    obtain ⟨t65,ht65,h⟩ := bind_some h
    refine sr mixed [] hst (fun _ => .q 0 rfl <| .q 1 rfl <| .q 10 rfl <| .q 12 rfl <| .o (op_callF call24 (law27_odd_ok ht63) (.cons (.of z2) <| .cons (.of z1) <| .cons (.of z0) <| .nil)) <| .q 6 rfl <| .o (op_make (R := rI) ud22 tok3 zok3 (leb rfl) z0 z0 ht65) <| .o (op_buildSl (R := (rSl rI)) (us := [t58,t63,t65]) ud53 tok22 (.cons z6 <| .cons z2 <| .cons z0 <| .nil _) rfl (leb rfl)) <| .o (op_assign z0) <| .n) fun n12 a w hst => ?_
    replace hst := hst.to [8,11,12,13,14,15,16,17,18] [_,_,_,_,_,_,_,_,_] [_] rfl rfl
    refine sr mixed [] hst (fun _ => .o (op_assign .k) <| .n) fun n13 a w hst => ?_
    replace hst := hst.to [0,1,2,3,4,5,6,7,8,9] [_,_,_,_,_,_,_,_,_,_] [_] rfl rfl
    obtain ⟨e308,he308,h⟩ := bind_some h
    have hJp320 : ∀ (p320 : Unit) a w,(.inl p320) = e308 → St M w0 142 [(15,ti s251),(14,ti s6),(13,tptr (rSapi_Schema.cs t29)),(1,ti kind_),(2,ti field_),(3,tsl rI m_),(4,ti at_),(5,ti by_)] [glo] a w → K298 a w := by
     intro p320 a w he hst
     subst he
     simp only at h
     refine hK298 _ _ ?_
     try clear hK298 K298
     refine wr mixed [] hst (fun _ => .q 0 rfl <| .o (op_add z0 .k) <| .o (op_assign z0) <| .n) fun n7 a w hst => ?_
     replace hst := hst.to [2,3,4,5,6,7,8,9] [_,_,_,_,_,_,_,_] [_] rfl rfl
     exact hK295 _ _ _ (sj h).symm (hst.pick [0,1,2,3,4,5,6,7])
    have hJp321 : ∀ (p321 : Bool) a w,(.inr p321) = e308 → St M w0 142 [(12,tb p321)] [glo] a w → Ret Tryz.prog Tryz.f6 M0 [glo] w0 (fun _ => []) (fun _ => tb r) .ret a w := by
     intro p321 a w he hst
     subst he
     simp only at h
     exact hJp294 _ _ _ (ho _ (sj h).symm) (hst.pick [0])
    refine wp_block ?_
    refine wp_loopK _ (fun (s307 : Int) a w => St M w0 142 [(19,ti s307),(18,tsl (rSl rI) [t58,t63,t65]),(15,ti s251),(14,ti s6),(13,tptr (rSapi_Schema.cs t29)),(1,ti kind_),(2,ti field_),(3,tsl rI m_),(4,ti at_),(5,ti by_)] [glo] a w) _ _ he308 (hst.pick [0,1,2,3,4,5,6,7,8,9]) ?_
    clear h
    intro s307 o a w K322 hI h ho hK322
    have hst := hI
    clear hI
    refine wp_seq_k (fun K323 hK323 => ?_)
    refine sr mixed [] hst (fun _ => .q 0 rfl <| .q 2 rfl <| .o (op_len ud53 z0) <| .o (op_lss z2 z0) <| .n) fun n14 a w hst => ?_
    replace hst := hst.to [3,4,5,6,7,8,9,10,11,12,13] [_,_,_,_,_,_,_,_,_,_,_] [_] rfl rfl
    refine wt hst (fun b333 => ?_) (fun b333 => ?_)
    ·replace h := ite_t b333 h
     refine wp_skip ?_
     refine hK323 _ _ ?_
     try clear hK323 K323
     refine wp_seq_k (fun K325 hK325 => ?_)
     refine wp_block ?_
     obtain ⟨t79,ht79,h⟩ := bind_some h
     obtain ⟨t81,ht81,h⟩ := bind_some h
     refine sr mixed [v1 11 (fun v0 => box (rSapi_Schema.cs zz4) v0),v1 11 (fun v0 => box (rSapi_Schema.cs t81.1) v0)] hst (fun _ => .o (op_load tok34 z5) <| .q 5 rfl <| .q 5 rfl <| .q 5 rfl <| .q 5 rfl <| .o (op_index ud53 tok22 z1 z0 ht79) <| .o (op_load tok22 z0) <| .o (op_callF call25 (learn_Fit_ok ht81) (.cons (.of z6) <| .cons (.of z5) <| .cons (.of z4) <| .cons (.of z0) <| .nil)) <| .q 0 rfl <| .o (op_extract z0 rfl) <| .o (op_extract z1 rfl) <| .m [] [1] rfl rfl rfl (op_alloc (R := rSapi_Schema) (a := zz4) tok34 zok34) <| .e [] [1] [2] rfl rfl rfl rfl (op_storeB (R := rSapi_Schema) (a := t81.1) tok34 z0 z2 (leb rfl)) <| .o (op_assign z1) <| .n) fun n16 a w hst => ?_
     replace hst : St _ _ _ [_,_,_,_,_,_,_,_,_,_,_,_] [_] _ _ := ((((hst.pick [11,12,14,15,16,17,18,19,20,21,22,23]).selA [1,0] rfl).shareB 0 rfl).add 0 rfl (fun _ _ _ h => h.2)).pick [0,3,4,5,6,7,8,9,10,11,12,13]
     obtain ⟨t90,ht90,h⟩ := bind_some h
     obtain ⟨t92,ht92,h⟩ := bind_some h
     refine sr mixed [v1 11 (fun v0 => box (rSapi_Schema.cs zz4) v0),v1 11 (fun v0 => box (rSapi_Schema.cs t92.1) v0)] hst (fun _ => .o (op_load tok34 z6) <| .q 6 rfl <| .q 6 rfl <| .q 6 rfl <| .q 6 rfl <| .o (op_index ud53 tok22 z1 z0 ht90) <| .o (op_load tok22 z0) <| .o (op_callF call26 (ref27_Fit_ok ht92) (.cons (.of z6) <| .cons (.of z5) <| .cons (.of z4) <| .cons (.of z0) <| .nil)) <| .q 0 rfl <| .o (op_extract z0 rfl) <| .o (op_extract z1 rfl) <| .m [] [1] rfl rfl rfl (op_alloc (R := rSapi_Schema) (a := zz4) tok34 zok34) <| .e [] [1] [2] rfl rfl rfl rfl (op_storeB (R := rSapi_Schema) (a := t92.1) tok34 z0 z2 (leb rfl)) <| .o (op_assign z1) <| .n) fun n17 a w hst => ?_
     replace hst : St _ _ _ [_,_,_,_,_,_,_,_,_,_,_,_,_,_] [_] _ _ := ((((hst.pick [11,12,13,14,15,16,17,18,19,20,21,22,23,24]).selA [1,0] rfl).shareB 0 rfl).add 0 rfl (fun _ _ _ h => h.2)).pick [0,3,4,5,6,7,8,9,10,11,12,13,14,15]
     obtain ⟨t101,ht101,h⟩ := bind_some h
     obtain ⟨t109,ht109,h⟩ := bind_some h
     obtain ⟨t113,ht113,h⟩ := bind_some h
     obtain ⟨t116,ht116,h⟩ := bind_some h
     refine sr mixed [] hst (fun _ => .q 3 rfl <| .q 2 rfl <| .o (op_neq z1 z0) <| .q 0 rfl <| .g rfl rfl (.b 0 rfl) (fun _ => op_load tok34 z6) <| .g rfl rfl (.b 1 rfl) (fun _ => op_load tok34 z5) <| .g rfl rfl (.b 2 rfl) (fun hc => op_callF call27 (schema_Same_ok (opt_t ht101 hc)) (.cons (.of (.cond z1 hc)) <| .cons (.of (.cond z0 hc)) <| .nil)) <| .g rfl rfl (.b 3 rfl) (fun hc => op_not (.cond z0 hc)) <| .o (op_or z4 (fun hp => (.cond z0 (beqF hp)))) <| .q 0 rfl <| .g rfl rfl (.b 0 rfl) (fun _ => op_move z13) <| .g rfl rfl (.b 1 rfl) (fun hc => op_eql (.cond z0 hc) .k) <| .g rfl rfl (.b 2 rfl) (fun hc => op_move (.cond z0 hc)) <| .g rfl rfl (.c 0 rfl) (fun _ => op_load tok34 z15) <| .gu [0] rfl rfl rfl (.c 1 rfl) (fun hc => (op_callF call28 (schema_Valid_ok (opt_t ht109 hc)) (.cons (.of (.cond z0 hc)) <| .nil)).glo) <| .g rfl rfl (.c 2 rfl) (fun hc => op_neq (.cond z0 hc) .k) <| .g rfl rfl (.c 3 rfl) (fun hc => op_move (.cond z0 hc)) <| .g rfl rfl (.c 0 rfl) (fun _ => op_load tok34 z19) <| .gu [0] rfl rfl rfl (.c 1 rfl) (fun hc => (op_callF call10 (typing_Check_ok (opt_t ht113 hc)) (.cons (.of (.cond z0 hc)) <| .nil)).glo) <| .g rfl rfl (.c 2 rfl) (fun hc => op_len ud28 (.cond z0 hc)) <| .g rfl rfl (.c 3 rfl) (fun _ => op_load tok34 z28) <| .gu [0] rfl rfl rfl (.c 4 rfl) (fun hc => (op_callF call10 (typing_Check_ok (opt_t ht116 hc)) (.cons (.of (.cond z0 hc)) <| .nil)).glo) <| .g rfl rfl (.c 5 rfl) (fun hc => op_len ud28 (.cond z0 hc)) <| .g rfl rfl (.c 6 rfl) (fun hc => op_gtr (.cond z3 hc) (.cond z0 hc)) <| .g rfl rfl (.c 11 rfl) (fun hc => op_or (.cond z7 hc) (fun hp => (.cond z0 (band_mk hc (beqF hp))))) <| .g rfl rfl (.b 15 rfl) (fun hc => op_and (.cond z12 hc) (fun hp => (.cond z0 (band_mk hc (beqT hp))))) <| .o (op_or z16 (fun hp => (.cond z0 (beqF hp)))) <| .n) fun n18 a w hst => ?_
     replace hst := hst.to [26,31,32,33,34,35,36,37,38,39,40] [_,_,_,_,_,_,_,_,_,_,_] [_] rfl rfl
     refine wt hst (fun b332 => ?_) (fun b332 => ?_)
     ·replace h := ite_t b332 h
      refine sr mixed [] hst (fun _ => .o (op_assign .k) <| .n) fun n19 a w hst => ?_
      replace hst := hst.to [0] [_] [_] rfl rfl
      refine wp_ret ?_
      exact hJp321 _ _ _ (ho _ (sj h).symm) (hst.pick [0])
     ·replace h := ite_f b332 h
      refine wp_skip ?_
      refine hK325 _ _ ?_
      try clear hK325 K325
      refine wr mixed [] hst (fun _ => .q 1 rfl <| .o (op_add z0 .k) <| .o (op_assign z0) <| .n) fun n15 a w hst => ?_
      replace hst := hst.to [2,4,5,6,7,8,9,10,11,12] [_,_,_,_,_,_,_,_,_,_] [_] rfl rfl
      exact hK322 _ _ _ (sj h).symm (hst.pick [0,1,2,3,4,5,6,7,8,9])
    ·replace h := ite_f b333 h
     refine wp_exit ?_
     exact hJp320 _ _ _ (ho _ (sj h).symm) (hst.pick [3,4,5,6,7,8,9,10])
   replace h := hp302
   clear hp302
   refine wt hst (fun b334 => ?_) (fun b334 => ?_)
   ·replace h := ite_t b334 h
    obtain ⟨t48,ht48,h⟩ := bind_some h
    obtain ⟨t52,ht52,h⟩ := bind_some h
    refine wr mixed [] hst (fun _ => .o (op_field fld34_1 z4) <| .o (op_loadT (R := (rSl rSapi_Kind)) (u := (t29).Kinds) tok30 z0 rfl) <| .q 5 rfl <| .o (op_index ud30 tok47 z1 z0 ht48) <| .o (op_field fld47_3 z0) <| .o (op_loadT (R := (rSl rSapi_Field)) (u := (t48).Fields) tok45 z0 rfl) <| .q 8 rfl <| .o (op_index ud45 tok44 z1 z0 ht52) <| .o (op_field fld44_6 z0) <| .o (op_loadT (R := (rSl rS)) (u := (t52).Words) tok38 z0 rfl) <| .o (op_len ud38 z0) <| .o (op_assign z0) <| .n) fun n10 a w hst => ?_
    replace hst := hst.to [11,13,14,15,16,17,18,19,20] [_,_,_,_,_,_,_,_,_] [_] rfl rfl
    obtain rfl := sj h
    exact hJp302 _ _ (hst.pick [0,1,2,3,4,5,6,7,8])
   ·replace h := ite_f b334 h
    refine wp_skip ?_
    obtain rfl := sj h
    exact hJp302 _ _ (hst.pick [1,2,3,4,5,6,7,8,9])
  ·replace h := ite_f b335 h
   refine wp_exit ?_
   exact hJp293 _ _ _ (ho _ (sj h).symm) (hst.pick [2,3,4,5,6,7,8])
 ·replace h := ite_f b336 h
  refine wp_exit ?_
  exact hJp239 _ _ _ (ho _ (sj h).symm) (hst.pick [2,3,4])

end Go.Proofs.YthdfmpocknmleaaGreatDoor
