/- Go functions as Lean functions, and the proofs that they compute them, written by a program. No condition. -/
import Derived.Test.YtcdccjagknlmpaaGreatDoorGenE
namespace Go.Proofs.YtcdccjagknlmpaaGreatDoor
open Go.Sim

/- slices.ContainsFunc[[]int,int] -/
noncomputable def fslices_ContainsFunc_int (s_ : (List Int)) (f_ : (Int → Option Bool)) : Option (Bool) := (fslices_IndexFunc_int s_ f_).bind fun t7 => (some (decide (t7 ≥ (0:Int))))
set_option maxRecDepth 100000 in
set_option maxHeartbeats 4000000 in
theorem slices_ContainsFunc_int_ok {s_ : (List Int)} {f_ : (Int → Option Bool)} {r : Bool} (h : fslices_ContainsFunc_int s_ f_ = some r) : FnOk Tryz.prog 43 [tsl rI s_,rF96.ty f_] [] (fun _ => []) (fun _ => tb r) := by
 unfold fslices_ContainsFunc_int at h
 refine FnOk.enter Tryz.func43 rfl Tryz.ntmps43 (leb rfl) (fun M0 M w0 a hpl hst => ?_)
 replace hst : St M w0 9 [(0,tsl rI s_),(1,rF96.ty f_)] [] a w0 := hst
 refine sr mixed [] hst (fun _ => .o (op_assign .k) <| .n) fun n0 a w hst => ?_
 replace hst := hst.to [1,2] [_,_] [] rfl rfl
 obtain ⟨t7,ht7,h⟩ := bind_some h
 refine sr mixed [] hst (fun _ => .q 0 rfl <| .q 2 rfl <| .o (op_callF call81 (slices_IndexFunc_int_ok ht7) (.cons (.of z1) <| .cons (.of z0) <| .nil)) <| .o (op_geq z0 .k) <| .o (op_assign z0) <| .n) fun n1 a w hst => ?_
 replace hst := hst.to [4] [_] [] rfl rfl
 refine wp_ret ?_
 obtain rfl := sj h
 exact ret_st undef [] hpl hst rfl (.tmp z0 .nil) rfl rfl rfl

/- diorama/counts.isCount -/
noncomputable def fcounts_isCount (n_ : Int) : Option (Bool) := (some ((decide (n_ ≥ (0:Int))) && (decide (n_ ≤ (65536:Int)))))
set_option maxRecDepth 100000 in
set_option maxHeartbeats 4000000 in
theorem counts_isCount_ok {n_ : Int} {r : Bool} (h : fcounts_isCount n_ = some r) : FnOk Tryz.prog 45 [ti n_] [] (fun _ => []) (fun _ => tb r) := by
 unfold fcounts_isCount at h
 refine FnOk.enter Tryz.func45 rfl Tryz.ntmps45 (leb rfl) (fun M0 M w0 a hpl hst => ?_)
 replace hst : St M w0 9 [(0,ti n_)] [] a w0 := hst
 refine sr mixed [] hst (fun _ => .o (op_assign .k) <| .n) fun n0 a w hst => ?_
 replace hst := hst.to [1] [_] [] rfl rfl
 refine sr mixed [] hst (fun _ => .q 0 rfl <| .o (op_geq z0 .k) <| .q 0 rfl <| .g rfl rfl (.b 0 rfl) (fun _ => op_move z3) <| .g rfl rfl (.b 1 rfl) (fun hc => op_leq (.cond z0 hc) .k) <| .o (op_and z2 (fun hp => (.cond z0 (beqT hp)))) <| .o (op_assign z0) <| .n) fun n1 a w hst => ?_
 replace hst := hst.to [6] [_] [] rfl rfl
 refine wp_ret ?_
 obtain rfl := sj h
 exact ret_st undef [] hpl hst rfl (.tmp z0 .nil) rfl rfl rfl

/- diorama/counts.Plan$1 -/
noncomputable def fcounts_Planq1 (n_ : Int) : Option (Bool) := (fcounts_isCount n_).bind fun t4 => (some (!t4))
set_option maxRecDepth 100000 in
set_option maxHeartbeats 4000000 in
theorem counts_Planq1_ok {n_ : Int} {r : Bool} (h : fcounts_Planq1 n_ = some r) : FnOk Tryz.prog 49 [ti n_] [] (fun _ => []) (fun _ => tb r) := by
 unfold fcounts_Planq1 at h
 refine FnOk.enter Tryz.func49 rfl Tryz.ntmps49 (leb rfl) (fun M0 M w0 a hpl hst => ?_)
 replace hst : St M w0 6 [(0,ti n_)] [] a w0 := hst
 refine sr mixed [] hst (fun _ => .o (op_assign .k) <| .n) fun n0 a w hst => ?_
 replace hst := hst.to [1] [_] [] rfl rfl
 obtain ⟨t4,ht4,h⟩ := bind_some h
 refine sr mixed [] hst (fun _ => .q 0 rfl <| .o (op_callF call45 (counts_isCount_ok ht4) (.cons (.of z0) <| .nil)) <| .o (op_not z0) <| .o (op_assign z0) <| .n) fun n1 a w hst => ?_
 replace hst := hst.to [3] [_] [] rfl rfl
 refine wp_ret ?_
 obtain rfl := sj h
 exact ret_st undef [] hpl hst rfl (.tmp z0 .nil) rfl rfl rfl

/- cmp.isNaN[int] -/
noncomputable def fcmp_isNaN_int (x_ : Int) : Option (Bool) := (some (x_ != x_))
set_option maxRecDepth 100000 in
set_option maxHeartbeats 4000000 in
theorem cmp_isNaN_int_ok {x_ : Int} {r : Bool} (h : fcmp_isNaN_int x_ = some r) : FnOk Tryz.prog 149 [ti x_] [] (fun _ => []) (fun _ => tb r) := by
 unfold fcmp_isNaN_int at h
 refine FnOk.enter Tryz.func149 rfl Tryz.ntmps149 (leb rfl) (fun M0 M w0 a hpl hst => ?_)
 replace hst : St M w0 6 [(0,ti x_)] [] a w0 := hst
 refine sr mixed [] hst (fun _ => .o (op_assign .k) <| .n) fun n0 a w hst => ?_
 replace hst := hst.to [1] [_] [] rfl rfl
 refine sr mixed [] hst (fun _ => .q 0 rfl <| .q 1 rfl <| .o (op_neq z1 z0) <| .o (op_assign z0) <| .n) fun n1 a w hst => ?_
 replace hst := hst.to [3] [_] [] rfl rfl
 refine wp_ret ?_
 obtain rfl := sj h
 exact ret_st undef [] hpl hst rfl (.tmp z0 .nil) rfl rfl rfl

/- cmp.Compare[int] -/
noncomputable def fcmp_Compare_int (x_ : Int) (y_ : Int) : Option (Int) := (fcmp_isNaN_int x_).bind fun t8 => (fcmp_isNaN_int y_).bind fun t10 => (if t8 = true then (if t10 = true then (some (0:Int)) else (some (-1:Int))) else (if t10 = true then (some (1:Int)) else (if (decide (x_ < y_)) = true then (some (-1:Int)) else (if (decide (x_ > y_)) = true then (some (1:Int)) else (some (0:Int))))))
set_option maxRecDepth 100000 in
set_option maxHeartbeats 4000000 in
theorem cmp_Compare_int_ok {x_ : Int} {y_ : Int} {r : Int} (h : fcmp_Compare_int x_ y_ = some r) : FnOk Tryz.prog 119 [ti x_,ti y_] [] (fun _ => []) (fun _ => ti r) := by
 unfold fcmp_Compare_int at h
 refine FnOk.enter Tryz.func119 rfl Tryz.ntmps119 (leb rfl) (fun M0 M w0 a hpl hst => ?_)
 replace hst : St M w0 20 [(0,ti x_),(1,ti y_)] [] a w0 := hst
 refine sr mixed [] hst (fun _ => .o (op_assign .k) <| .n) fun n0 a w hst => ?_
 replace hst := hst.to [1,2] [_,_] [] rfl rfl
 obtain ⟨t8,ht8,h⟩ := bind_some h
 refine sr mixed [] hst (fun _ => .q 0 rfl <| .o (op_callF call149 (cmp_isNaN_int_ok ht8) (.cons (.of z0) <| .nil)) <| .o (op_assign z0) <| .n) fun n1 a w hst => ?_
 replace hst := hst.to [2,3,4] [_,_,_] [] rfl rfl
 obtain ⟨t10,ht10,h⟩ := bind_some h
 refine sr mixed [] hst (fun _ => .q 2 rfl <| .o (op_callF call149 (cmp_isNaN_int_ok ht10) (.cons (.of z0) <| .nil)) <| .o (op_assign z0) <| .n) fun n2 a w hst => ?_
 replace hst := hst.to [2,3,4,5] [_,_,_,_] [] rfl rfl
 refine wp_seq_k (fun K4 hK4 => ?_)
 refine sr mixed [] hst (fun _ => .q 1 rfl <| .n) fun n3 a w hst => ?_
 replace hst := hst.to [0,1,3,4] [_,_,_,_] [] rfl rfl
 refine wt hst (fun b24 => ?_) (fun b24 => ?_)
 ·replace h := ite_t b24 h
  refine wp_seq_k (fun K6 hK6 => ?_)
  refine sr mixed [] hst (fun _ => .q 1 rfl <| .n) fun n4 a w hst => ?_
  replace hst := hst.to [0] [_] [] rfl rfl
  refine wt hst (fun b10 => ?_) (fun b10 => ?_)
  ·replace h := ite_t b10 h
   refine sr mixed [] hst (fun _ => .o (op_assign .k) <| .n) fun n5 a w hst => ?_
   replace hst := hst.to [0] [_] [] rfl rfl
   refine wp_ret ?_
   obtain rfl := sj h
   exact ret_st undef [] hpl hst rfl (.tmp z0 .nil) rfl rfl rfl
  ·replace h := ite_f b10 h
   refine wp_skip ?_
   refine hK6 _ _ ?_
   try clear hK6 K6
   refine sr mixed [] hst (fun _ => .o (op_assign .k) <| .n) fun n6 a w hst => ?_
   replace hst := hst.to [0] [_] [] rfl rfl
   refine wp_ret ?_
   obtain rfl := sj h
   exact ret_st undef [] hpl hst rfl (.tmp z0 .nil) rfl rfl rfl
 ·replace h := ite_f b24 h
  refine wp_skip ?_
  refine hK4 _ _ ?_
  try clear hK4 K4
  refine wp_seq_k (fun K11 hK11 => ?_)
  refine sr mixed [] hst (fun _ => .q 1 rfl <| .n) fun n7 a w hst => ?_
  replace hst := hst.to [0,3,4] [_,_,_] [] rfl rfl
  refine wt hst (fun b23 => ?_) (fun b23 => ?_)
  ·replace h := ite_t b23 h
   refine sr mixed [] hst (fun _ => .o (op_assign .k) <| .n) fun n8 a w hst => ?_
   replace hst := hst.to [0] [_] [] rfl rfl
   refine wp_ret ?_
   obtain rfl := sj h
   exact ret_st undef [] hpl hst rfl (.tmp z0 .nil) rfl rfl rfl
  ·replace h := ite_f b23 h
   refine wp_skip ?_
   refine hK11 _ _ ?_
   try clear hK11 K11
   refine wp_seq_k (fun K14 hK14 => ?_)
   refine sr mixed [] hst (fun _ => .q 1 rfl <| .q 3 rfl <| .o (op_lss z1 z0) <| .n) fun n9 a w hst => ?_
   replace hst := hst.to [2,4,5] [_,_,_] [] rfl rfl
   refine wt hst (fun b22 => ?_) (fun b22 => ?_)
   ·replace h := ite_t b22 h
    refine sr mixed [] hst (fun _ => .o (op_assign .k) <| .n) fun n10 a w hst => ?_
    replace hst := hst.to [0] [_] [] rfl rfl
    refine wp_ret ?_
    obtain rfl := sj h
    exact ret_st undef [] hpl hst rfl (.tmp z0 .nil) rfl rfl rfl
   ·replace h := ite_f b22 h
    refine wp_skip ?_
    refine hK14 _ _ ?_
    try clear hK14 K14
    refine wp_seq_k (fun K17 hK17 => ?_)
    refine sr mixed [] hst (fun _ => .q 1 rfl <| .q 3 rfl <| .o (op_gtr z1 z0) <| .n) fun n11 a w hst => ?_
    replace hst := hst.to [2] [_] [] rfl rfl
    refine wt hst (fun b21 => ?_) (fun b21 => ?_)
    ·replace h := ite_t b21 h
     refine sr mixed [] hst (fun _ => .o (op_assign .k) <| .n) fun n12 a w hst => ?_
     replace hst := hst.to [0] [_] [] rfl rfl
     refine wp_ret ?_
     obtain rfl := sj h
     exact ret_st undef [] hpl hst rfl (.tmp z0 .nil) rfl rfl rfl
    ·replace h := ite_f b21 h
     refine wp_skip ?_
     refine hK17 _ _ ?_
     try clear hK17 K17
     refine sr mixed [] hst (fun _ => .o (op_assign .k) <| .n) fun n13 a w hst => ?_
     replace hst := hst.to [0] [_] [] rfl rfl
     refine wp_ret ?_
     obtain rfl := sj h
     exact ret_st undef [] hpl hst rfl (.tmp z0 .nil) rfl rfl rfl

/- slices.Compare[[]int,int] -/
noncomputable def fslices_Compare_int (s1_ : (List Int)) (s2_ : (List Int)) : Option (Int) := (tailrec (fun (s4 : Int) => ((if (decide (s4 < (s1_.length : Int))) = true then (idx s1_ s4).bind fun t14 => (if (decide (s4 ≥ (s2_.length : Int))) = true then (some (.inr (.inr (1:Int)))) else (idx s2_ s4).bind fun t22 => (fcmp_Compare_int t14 t22).bind fun t26 => (if (t26 != (0:Int)) = true then (some (.inr (.inr t26))) else (some (.inl (IntKind.i64.wrap (s4 + (1:Int))))))) else (some (.inr (.inl ())))) : Option ((Int) ⊕ ((Unit) ⊕ (Int))))) (0:Int)).bind fun (e5 : (Unit) ⊕ (Int)) => (match e5 with | .inl _ => (if (decide ((s1_.length : Int) < (s2_.length : Int))) = true then (some (-1:Int)) else (some (0:Int))) | .inr p35 => (some p35))
set_option maxRecDepth 100000 in
set_option maxHeartbeats 4000000 in
theorem slices_Compare_int_ok {s1_ : (List Int)} {s2_ : (List Int)} {r : Int} (h : fslices_Compare_int s1_ s2_ = some r) : FnOk Tryz.prog 83 [tsl rI s1_,tsl rI s2_] [] (fun _ => []) (fun _ => ti r) := by
 unfold fslices_Compare_int at h
 refine FnOk.enter Tryz.func83 rfl Tryz.ntmps83 (leb rfl) (fun M0 M w0 a hpl hst => ?_)
 replace hst : St M w0 36 [(0,tsl rI s1_),(1,tsl rI s2_)] [] a w0 := hst
 refine sr mixed [] hst (fun _ => .o (op_assign .k) <| .n) fun n0 a w hst => ?_
 replace hst := hst.to [1,2] [_,_] [] rfl rfl
 refine wp_seq_k (fun K2 hK2 => ?_)
 refine sr mixed [] hst (fun _ => .q 0 rfl <| .o (op_len ud22 z0) <| .o (op_move .k) <| .n) fun n1 a w hst => ?_
 replace hst := hst.to [0,1,2,3,4] [_,_,_,_,_] [] rfl rfl
 obtain ⟨e5,he5,h⟩ := bind_some h
 have hJp34 : ∀ (p34 : Unit) a w,(.inl p34) = e5 → St M w0 36 [(0,tsl rI s1_),(1,tsl rI s2_)] [] a w → K2 a w := by
  intro p34 a w he hst
  subst he
  simp only at h
  refine hK2 _ _ ?_
  try clear hK2 K2
  refine wp_seq_k (fun K36 hK36 => ?_)
  refine sr mixed [] hst (fun _ => .q 0 rfl <| .o (op_len ud22 z0) <| .q 3 rfl <| .o (op_len ud22 z0) <| .o (op_lss z2 z0) <| .n) fun n11 a w hst => ?_
  replace hst := hst.to [4] [_] [] rfl rfl
  refine wt hst (fun b40 => ?_) (fun b40 => ?_)
  ·replace h := ite_t b40 h
   refine sr mixed [] hst (fun _ => .o (op_assign .k) <| .n) fun n12 a w hst => ?_
   replace hst := hst.to [0] [_] [] rfl rfl
   refine wp_ret ?_
   obtain rfl := sj h
   exact ret_st undef [] hpl hst rfl (.tmp z0 .nil) rfl rfl rfl
  ·replace h := ite_f b40 h
   refine wp_skip ?_
   refine hK36 _ _ ?_
   try clear hK36 K36
   refine sr mixed [] hst (fun _ => .o (op_assign .k) <| .n) fun n13 a w hst => ?_
   replace hst := hst.to [0] [_] [] rfl rfl
   refine wp_ret ?_
   obtain rfl := sj h
   exact ret_st undef [] hpl hst rfl (.tmp z0 .nil) rfl rfl rfl
 have hJp35 : ∀ (p35 : Int) a w,(.inr p35) = e5 → St M w0 36 [(4,ti p35)] [] a w → Ret Tryz.prog Tryz.f83 M0 [] w0 (fun _ => []) (fun _ => ti r) .ret a w := by
  intro p35 a w he hst
  subst he
  simp only at h
  obtain rfl := sj h
  exact ret_st undef [] hpl hst rfl (.tmp z0 .nil) rfl rfl rfl
 refine wp_block ?_
 refine wp_loopK _ (fun (s4 : Int) a w => St M w0 36 [(9,tsl rI s1_),(10,ti (s1_.length : Int)),(11,ti s4),(0,tsl rI s1_),(1,tsl rI s2_)] [] a w) _ _ he5 (hst.pick [0,1,2,3,4]) ?_
 clear h
 intro s4 o a w K41 hI h ho hK41
 have hst := hI
 clear hI
 refine sr mixed [] hst (fun _ => .o (op_lss z2 z1) <| .n) fun n2 a w hst => ?_
 replace hst := hst.to [0,1,2,3,4,5] [_,_,_,_,_,_] [] rfl rfl
 refine wp_seq_k (fun K43 hK43 => ?_)
 refine wt hst (fun b55 => ?_) (fun b55 => ?_)
 ·replace h := ite_t b55 h
  refine wp_skip ?_
  refine hK43 _ _ ?_
  try clear hK43 K43
  refine wp_seq_k (fun K44 hK44 => ?_)
  refine wp_block ?_
  obtain ⟨t14,ht14,h⟩ := bind_some h
  refine sr mixed [] hst (fun _ => .q 3 rfl <| .o (op_index ud22 tok3 z2 z4 ht14) <| .o (op_load tok3 z0) <| .o (op_assign z2) <| .o (op_assign z1) <| .n) fun n3 a w hst => ?_
  replace hst := hst.to [3,4,6,7,8,9,10] [_,_,_,_,_,_,_] [] rfl rfl
  refine wp_seq_k (fun K46 hK46 => ?_)
  refine sr mixed [] hst (fun _ => .q 0 rfl <| .q 7 rfl <| .o (op_len ud22 z0) <| .o (op_geq z2 z0) <| .n) fun n4 a w hst => ?_
  replace hst := hst.to [3,4,5,6,7,8,9,10] [_,_,_,_,_,_,_,_] [] rfl rfl
  refine wt hst (fun b54 => ?_) (fun b54 => ?_)
  ·replace h := ite_t b54 h
   refine sr mixed [] hst (fun _ => .o (op_assign .k) <| .n) fun n5 a w hst => ?_
   replace hst := hst.to [0] [_] [] rfl rfl
   refine wp_ret ?_
   exact hJp35 _ _ _ (ho _ (sj h).symm) (hst.pick [0])
  ·replace h := ite_f b54 h
   refine wp_skip ?_
   refine hK46 _ _ ?_
   try clear hK46 K46
   obtain ⟨t22,ht22,h⟩ := bind_some h
   refine sr mixed [] hst (fun _ => .q 7 rfl <| .q 2 rfl <| .o (op_index ud22 tok3 z1 z0 ht22) <| .o (op_load tok3 z0) <| .o (op_assign z0) <| .n) fun n6 a w hst => ?_
   replace hst := hst.to [4,7,8,9,10,11,12] [_,_,_,_,_,_,_] [] rfl rfl
   obtain ⟨t26,ht26,h⟩ := bind_some h
   refine sr mixed [] hst (fun _ => .q 1 rfl <| .q 1 rfl <| .o (op_callF call119 (cmp_Compare_int_ok ht26) (.cons (.of z1) <| .cons (.of z0) <| .nil)) <| .o (op_assign z0) <| .n) fun n7 a w hst => ?_
   replace hst := hst.to [3,6,7,8,9,10] [_,_,_,_,_,_] [] rfl rfl
   refine sr mixed [] hst (fun _ => .q 0 rfl <| .o (op_neq z0 .k) <| .n) fun n8 a w hst => ?_
   replace hst := hst.to [1,2,3,4,5,6,7] [_,_,_,_,_,_,_] [] rfl rfl
   refine wt hst (fun b53 => ?_) (fun b53 => ?_)
   ·replace h := ite_t b53 h
    refine sr mixed [] hst (fun _ => .q 1 rfl <| .o (op_assign z0) <| .n) fun n9 a w hst => ?_
    replace hst := hst.to [1] [_] [] rfl rfl
    refine wp_ret ?_
    exact hJp35 _ _ _ (ho _ (sj h).symm) (hst.pick [0])
   ·replace h := ite_f b53 h
    refine wp_skip ?_
    refine hK44 _ _ ?_
    try clear hK44 K44
    refine wr mixed [] hst (fun _ => .o (op_add z4 .k) <| .q 0 rfl <| .n) fun n10 a w hst => ?_
    replace hst := hst.to [1,4,5,6,7] [_,_,_,_,_] [] rfl rfl
    exact hK41 _ _ _ (sj h).symm (hst.pick [1,2,0,3,4])
 ·replace h := ite_f b55 h
  refine wp_exit ?_
  exact hJp34 _ _ _ (ho _ (sj h).symm) (hst.pick [4,5])

/- (*diorama/counts.search).room -/
noncomputable def fcounts_search_room (s_ : Scounts_search) (kind_ : Int) : Option (Int × Int) := (tailrec (fun (s5 : Int × Int × Int) => ((if (decide (s5.1 < ((s_).limits.length : Int))) = true then ((idx (s_).limits s5.1).bind fun t18 => (if (((t18).A != kind_) || (decide ((t18).B ≥ kind_))) = true then (some (s5.2.1,s5.2.2)) else (fcounts_Limit_bound t18 ((s_).now).L).bind fun t35 => ((if (t18).Least = true then (some ((imax s5.2.1 t35),s5.2.2)) else (some (s5.2.1,(imin s5.2.2 t35))))).bind fun (p80 : Int × Int) => (some (p80.1,p80.2)))).bind fun (p63 : Int × Int) => (some (.inl ((IntKind.i64.wrap (s5.1 + (1:Int))),p63.1,p63.2))) else (some (.inr (s5.2.1,s5.2.2)))) : Option ((Int × Int × Int) ⊕ ((Int × Int))))) ((0:Int),(0:Int),(65536:Int))).bind fun (p57 : (Int × Int)) => (some (p57.1,p57.2))
set_option maxRecDepth 100000 in
set_option maxHeartbeats 4000000 in
theorem counts_search_room_ok {s_ : Scounts_search} {kind_ : Int} {r : Int × Int} (h : fcounts_search_room s_ kind_ = some r) : FnOk Tryz.prog 120 [tptr (rScounts_search.cs s_),ti kind_] [] (fun _ => []) (fun _ => ttup [ti r.1,ti r.2]) := by
 unfold fcounts_search_room at h
 refine FnOk.enter Tryz.func120 rfl Tryz.ntmps120 (leb rfl) (fun M0 M w0 a hpl hst => ?_)
 replace hst : St M w0 47 [(0,tptr (rScounts_search.cs s_)),(1,ti kind_)] [] a w0 := hst
 refine sr mixed [] hst (fun _ => .o (op_assign .k) <| .o (op_assign .k) <| .n) fun n0 a w hst => ?_
 replace hst := hst.to [2,3] [_,_] [] rfl rfl
 refine sr mixed [] hst (fun _ => .o (op_assign .k) <| .o (op_assign .k) <| .n) fun n1 a w hst => ?_
 replace hst := hst.to [0,1,2,3] [_,_,_,_] [] rfl rfl
 refine wp_seq_k (fun K3 hK3 => ?_)
 refine sr mixed [] hst (fun _ => .q 2 rfl <| .o (op_nilR z0) <| .o (op_field fld105_0 z0) <| .o (op_loadT (R := (rSl rScounts_Limit)) (u := (s_).limits) tok31 z0 rfl) <| .o (op_len ud31 z0) <| .o (op_move .k) <| .n) fun n2 a w hst => ?_
 replace hst := hst.to [3,4,5,6,7,8,9] [_,_,_,_,_,_,_] [] rfl rfl
 obtain ⟨e6,he6,h⟩ := bind_some h
 have hJp57 : ∀ (p57 : Int × Int) a w,p57 = e6 → St M w0 47 [(6,ti p57.1),(7,ti p57.2)] [] a w → K3 a w := by
  intro p57 a w he hst
  subst he
  refine hK3 _ _ ?_
  try clear hK3 K3
  refine sr mixed [] hst (fun _ => .q 0 rfl <| .q 2 rfl <| .o (op_assign z1) <| .o (op_assign z1) <| .n) fun n11 a w hst => ?_
  replace hst := hst.to [2,3] [_,_] [] rfl rfl
  refine wp_ret ?_
  obtain rfl := sj h
  exact ret_st undef [] hpl hst rfl (.tmp z0 (.tmp z1 .nil)) rfl rfl rfl
 refine wp_block ?_
 refine wp_loopK _ (fun (s5 : Int × Int × Int) a w => St M w0 47 [(14,tsl rScounts_Limit (s_).limits),(15,ti ((s_).limits.length : Int)),(16,ti s5.1),(6,ti s5.2.1),(7,ti s5.2.2),(0,tptr (rScounts_search.cs s_)),(1,ti kind_)] [] a w) _ _ he6 (hst.pick [0,1,2,3,4,5,6]) ?_
 clear h
 intro s5 o a w K59 hI h ho hK59
 have hst := hI
 clear hI
 refine sr mixed [] hst (fun _ => .o (op_lss z2 z1) <| .n) fun n3 a w hst => ?_
 replace hst := hst.to [0,1,2,3,4,5,6,7] [_,_,_,_,_,_,_,_] [] rfl rfl
 refine wp_seq_k (fun K61 hK61 => ?_)
 refine wt hst (fun b84 => ?_) (fun b84 => ?_)
 ·replace h := ite_t b84 h
  refine wp_skip ?_
  refine hK61 _ _ ?_
  try clear hK61 K61
  refine wp_seq_k (fun K62 hK62 => ?_)
  obtain ⟨p63,hp63,h⟩ := bind_some h
  have hJp63 : ∀ a w,St M w0 47 [(14,tsl rScounts_Limit (s_).limits),(15,ti ((s_).limits.length : Int)),(16,ti s5.1),(6,ti p63.1),(7,ti p63.2),(0,tptr (rScounts_search.cs s_)),(1,ti kind_)] [] a w → K62 a w := by
   intro a w hst
   refine hK62 _ _ ?_
   try clear hK62 K62
   refine wr mixed [] hst (fun _ => .o (op_add z2 .k) <| .q 0 rfl <| .n) fun n10 a w hst => ?_
   replace hst := hst.to [1,2,3,4,5,6,7] [_,_,_,_,_,_,_] [] rfl rfl
   exact hK59 _ _ _ (sj h).symm (hst.pick [1,2,0,3,4,5,6])
  replace h := hp63
  clear hp63
  refine wp_block ?_
  obtain ⟨t18,ht18,h⟩ := bind_some h
  refine sr mixed [v1 2 (fun v0 => box (rScounts_Limit.cs zz4) v0),v1 2 (fun v0 => box (rScounts_Limit.cs t18) v0)] hst (fun _ => .o (op_index ud31 tok43 z1 z3 ht18) <| .o (op_load tok43 z0) <| .m [] [0] rfl rfl rfl (op_alloc (R := rScounts_Limit) (a := zz4) tok43 zok43) <| .e [] [0] [1] rfl rfl rfl rfl (op_storeB (R := rScounts_Limit) (a := t18) tok43 z0 z1 (leb rfl)) <| .n) fun n4 a w hst => ?_
  replace hst : St _ _ _ [_,_,_,_,_,_,_,_] [] _ _ := (((hst.pick [2,4,5,6,7,8,9,10]).shareB 0 rfl).add 0 rfl (fun _ _ _ h => h.2)).pick [0,3,4,5,6,7,8,9]
  refine wp_seq_k (fun K76 hK76 => ?_)
  refine sr mixed [] hst (fun _ => .o (op_field fld43_0 z0) <| .o (op_loadT (R := rI) (u := (t18).A) tok3 z0 rfl) <| .q 9 rfl <| .o (op_neq z1 z0) <| .q 0 rfl <| .g rfl rfl (.b 0 rfl) (fun _ => op_field fld43_1 z5) <| .g rfl rfl (.b 1 rfl) (fun hc => op_loadT (R := rI) (u := (t18).B) tok3 (.cond z0 hc) rfl) <| .g rfl rfl (.b 2 rfl) (fun _ => op_move z14) <| .g rfl rfl (.b 3 rfl) (fun hc => op_geq (.cond z1 hc) (.cond z0 hc)) <| .o (op_or z4 (fun hp => (.cond z0 (beqF hp)))) <| .n) fun n5 a w hst => ?_
  replace hst := hst.to [9,10,11,12,13,14,15,16,17] [_,_,_,_,_,_,_,_,_] [] rfl rfl
  refine wt hst (fun b83 => ?_) (fun b83 => ?_)
  ·replace h := ite_t b83 h
   refine wp_exit ?_
   obtain rfl := sj h
   exact hJp63 _ _ (hst.pick [2,3,4,5,6,7,8])
  ·replace h := ite_f b83 h
   refine wp_skip ?_
   refine hK76 _ _ ?_
   try clear hK76 K76
   obtain ⟨t35,ht35,h⟩ := bind_some h
   refine sr mixed [] hst (fun _ => .o (op_load tok43 z1) <| .q 8 rfl <| .o (op_nilR z0) <| .o (op_field fld105_3 z0) <| .o (op_sliceAR (L := ((s_).now).L) ud103 tok3 z0 rfl (by decide) rfl) <| .o (op_callF call82 (counts_Limit_bound_ok ht35) (.cons (.of z4) <| .cons (.of z0) <| .nil)) <| .o (op_assign z0) <| .n) fun n6 a w hst => ?_
   replace hst := hst.to [6,8,9,10,11,12,13,14,15] [_,_,_,_,_,_,_,_,_] [] rfl rfl
   refine sr mixed [] hst (fun _ => .o (op_field fld43_3 z1) <| .o (op_loadT (R := rBool) (u := (t18).Least) tok4 z0 rfl) <| .n) fun n7 a w hst => ?_
   replace hst := hst.to [1,2,4,5,6,7,8,9,10] [_,_,_,_,_,_,_,_,_] [] rfl rfl
   obtain ⟨p80,hp80,h⟩ := bind_some h
   have hJp80 : ∀ a w,St M w0 47 [(6,ti p80.1),(14,tsl rScounts_Limit (s_).limits),(15,ti ((s_).limits.length : Int)),(16,ti s5.1),(7,ti p80.2),(0,tptr (rScounts_search.cs s_)),(1,ti kind_)] [] a w → K62 a w := by
    intro a w hst
    obtain rfl := sj h
    exact hJp63 _ _ (hst.pick [1,2,3,0,4,5,6])
   replace h := hp80
   clear hp80
   refine wt hst (fun b82 => ?_) (fun b82 => ?_)
   ·replace h := ite_t b82 h
    refine wr mixed [] hst (fun _ => .q 5 rfl <| .q 2 rfl <| .o (op_max z1 z0) <| .o (op_assign z0) <| .n) fun n8 a w hst => ?_
    replace hst := hst.to [3,6,7,8,9,10,11] [_,_,_,_,_,_,_] [] rfl rfl
    obtain rfl := sj h
    exact hJp80 _ _ (hst.pick [0,1,2,3,4,5,6])
   ·replace h := ite_f b82 h
    refine wr mixed [] hst (fun _ => .q 6 rfl <| .q 2 rfl <| .o (op_min z1 z0) <| .o (op_assign z0) <| .n) fun n9 a w hst => ?_
    replace hst := hst.to [3,6,7,8,9,10,11] [_,_,_,_,_,_,_] [] rfl rfl
    obtain rfl := sj h
    exact hJp80 _ _ (hst.pick [4,1,2,3,0,5,6])
 ·replace h := ite_f b84 h
  refine wp_exit ?_
  exact hJp57 _ _ _ (ho _ (sj h).symm) (hst.pick [4,5])

/- counts.values$1, by hand: Y is what a round does. -/
noncomputable def fcounts_search_valuesq1 (Y : Scounts_search → Int → Option (Scounts_search)) (s_ : Scounts_search) (lo_ : Int) (hi_ : Int) (kind_ : Int) : Option (Scounts_search) := (if (decide (lo_ > hi_)) = true then (some s_) else (idx (s_).leads kind_).bind fun t16 => (if (!t16) = true then (idx (s_).want kind_).bind fun t25 => (Y s_ (imin (imax t25 lo_) hi_)).bind fun t30 => (some t30) else (tailrec (fun (s5 : Int × Scounts_search) => ((opt (decide (s5.1 ≤ hi_)) (Y s5.2 s5.1) s5.2).bind fun t38 => (if (decide (s5.1 ≤ hi_)) = true then (some (.inl (IntKind.i64.wrap (s5.1 + (1:Int)),t38))) else (some (.inr t38))))) (lo_,s_))))
set_option maxRecDepth 100000 in
set_option maxHeartbeats 4000000 in
theorem counts_search_valuesq1_ok {q : Value} {l : Nat} {LA : Atom} {Y : Scounts_search → Int → Option (Scounts_search)} {s_ : Scounts_search} {lo_ hi_ kind_ : Int} {r : Scounts_search}
  (hY : ∀ s n r,Y s n = some r → YieldOk Tryz.prog l [LA,box (rScounts_search.cs s) q] (.int .i64 n) (fun _ => [LA,box (rScounts_search.cs r) q])) (h : fcounts_search_valuesq1 Y s_ lo_ hi_ kind_ = some r) :
  FnOk Tryz.prog 121 [tv (.func (.yield l) #[] #[]),tptr (rI.cs lo_),tptr (rI.cs hi_),tptr (rVal.cs q),tptr (rI.cs kind_)] [LA,box (rScounts_search.cs s_) q] (fun _ => [LA,box (rScounts_search.cs r) q]) (fun _ => ttup []) := by
 unfold fcounts_search_valuesq1 at h
 refine FnOk.enter Tryz.func121 rfl Tryz.ntmps121 (leb rfl) (fun M0 M w0 a hpl hst => ?_)
 replace hst : St M w0 42 [(0,tv (.func (.yield l) #[] #[])),(1,tptr (rI.cs lo_)),(2,tptr (rI.cs hi_)),(3,tptr (rVal.cs q)),(4,tptr (rI.cs kind_))] [LA,box (rScounts_search.cs s_) q] a w0 := hst
 refine wp_seq_k (fun K2 hK2 => ?_)
 refine wp_seq_k (fun K1 hK1 => ?_)
 refine wr mixed [] hst (fun _ => .o (op_load (R := rI) (u := lo_) tok3 z1) <| .o (op_load (R := rI) (u := hi_) tok3 z3) <| .o (op_gtr z1 z0) <| .n) fun n0 a w hst => ?_
 replace hst := hst.to [2,3,4,5,6,7] [_,_,_,_,_,_] [_,_] rfl rfl
 refine hK1 _ _ ?_
 clear hK1 K1
 refine wt hst (fun b1 => ?_) (fun b1 => ?_)
 ·replace h := ite_t b1 h
  refine wp_ret ?_
  obtain rfl := sj h
  exact ret_st undef [0,1] hpl hst rfl .nil rfl rfl rfl
 replace h := ite_f b1 h
 refine wp_skip ?_
 refine hK2 _ _ ?_
 clear hK2 K2
 obtain ⟨t16,ht16,h⟩ := bind_some h
 refine wp_seq_k (fun K4 hK4 => ?_)
 refine wp_seq_k (fun K3 hK3 => ?_)
 refine wr mixed [] hst (fun _ => .o (op_loadP tokP100 z4) <| .u [1] rfl rfl (op_nilB z0) <| .u [1] rfl rfl (op_fieldB fld105_2 z0) <| .u [1] rfl rfl (op_loadBf (R := (rSl rBool)) (u := (s_).leads) tok101 z0 rfl) <| .o (op_load (R := rI) (u := kind_) tok3 z9) <| .o (op_index ud101 tok4 z1 z0 ht16) <| .o (op_load tok4 z0) <| .o (op_not z0) <| .n) fun n1 a w hst => ?_
 replace hst := hst.to [7,9,10,11,12,13] [_,_,_,_,_,_] [_,_] rfl rfl
 refine hK3 _ _ ?_
 clear hK3 K3
 refine wt hst (fun b2 => ?_) (fun b2 => ?_)
 ·replace h := ite_t b2 h
  obtain ⟨t25,ht25,h⟩ := bind_some h
  obtain ⟨t30,ht30,h⟩ := bind_some h
  refine wp_seq_k (fun K5 hK5 => ?_)
  refine wr mixed [v0 LA,v0 (box (rScounts_search.cs t30) q)] hst (fun _ => .q 1 rfl <| .o (op_loadP tokP100 z5) <| .u [1] rfl rfl (op_nilB z0) <| .u [1] rfl rfl (op_fieldB fld105_1 z0) <| .u [1] rfl rfl (op_loadBf (R := (rSl rI)) (u := (s_).want) tok22 z0 rfl) <| .o (op_load (R := rI) (u := kind_) tok3 z10) <| .o (op_index ud22 tok3 z1 z0 ht25) <| .o (op_load tok3 z0) <| .o (op_load (R := rI) (u := lo_) tok3 z10) <| .o (op_max z1 z0) <| .o (op_load (R := rI) (u := hi_) tok3 z13) <| .o (op_min z1 z0) <| .e [] [0,1] [2,3] rfl rfl rfl rfl (op_yield z11 z0 (hY _ _ _ ht30)) <| .n) fun n2 a w hst => ?_
  replace hst := hst.to [] [] [_,_] rfl rfl
  refine hK5 _ _ ?_
  refine wp_ret ?_
  obtain rfl := sj h
  exact ret_st undef [0,1] hpl hst rfl .nil rfl rfl rfl
 replace h := ite_f b2 h
 refine wp_skip ?_
 refine hK4 _ _ ?_
 clear hK4 K4
 refine wp_seq_k (fun K6 hK6 => ?_)
 refine wr mixed [] hst (fun _ => .o (op_load (R := rI) (u := lo_) tok3 z2) <| .o (op_assign z0) <| .n) fun n3 a w hst => ?_
 replace hst := hst.to [1,3,4,5,6,7] [_,_,_,_,_,_] [_,_] rfl rfl
 refine hK6 _ _ ?_
 clear hK6 K6
 refine wp_block ?_
 refine wp_loopK _ (fun (s5 : Int × Scounts_search) a w => St M w0 42 [(6,ti s5.1),(0,tv (.func (.yield l) #[] #[])),(1,tptr (rI.cs lo_)),(2,tptr (rI.cs hi_)),(3,tptr (rVal.cs q)),(4,tptr (rI.cs kind_))] [LA,box (rScounts_search.cs s5.2) q] a w) _ _ h hst ?_
 clear h
 intro s5 o a w K7 hI h ho hK7
 have hst := hI
 clear hI
 obtain ⟨t38,ht38,h⟩ := bind_some h
 refine wp_seq_k (fun K9 hK9 => ?_)
 refine wp_seq_k (fun K8 hK8 => ?_)
 refine wr mixed [v0 LA,v0 (box (rScounts_search.cs (bif (decide (s5.1 ≤ hi_) == true) then t38 else s5.2)) q)] hst (fun _ => .q 0 rfl <| .o (op_load (R := rI) (u := hi_) tok3 z4) <| .o (op_leq z1 z0) <| .q 0 rfl <| .g rfl rfl (.b 0 rfl) (fun _ => op_move z5) <| .g rfl rfl (.b 1 rfl) (fun _ => op_move z5) <| .ge (N := fun c _ => [LA,box (rScounts_search.cs (bif c then t38 else s5.2)) q]) [] [0,1] [2,3] rfl rfl rfl rfl rfl (.b 2 rfl) (fun hc => op_yield (.cond z1 hc) (.cond z0 hc) (hY _ _ _ (opt_t ht38 (by simpa using hc)))) rfl <| .o (op_and z3 (fun hp => (.cond z0 (beqT hp)))) <| .n) fun n4 a w hst => ?_
 replace hst := hst.to [7,8,9,10,11,12,13] [_,_,_,_,_,_,_] [_,_] rfl rfl
 refine hK8 _ _ ?_
 clear hK8 K8
 have hts : decide (s5.1 ≤ hi_) = false → t38 = s5.2 := fun hf => by
  unfold opt at ht38
  rw [hf] at ht38
  exact (sj ht38).symm
 refine wt hst (fun b3 => ?_) (fun b3 => ?_)
 ·have hb : decide (s5.1 ≤ hi_) = true := by simpa using b3
  replace h := ite_t hb h
  have ec : (bif (decide (s5.1 ≤ hi_) == true) then t38 else s5.2) = t38 := by rw [hb]; rfl
  rw [ec] at hst
  refine wp_skip ?_
  refine hK9 _ _ ?_
  refine wp_seq_k (fun K10 hK10 => ?_)
  refine wp_block ?_
  refine wp_skip ?_
  refine hK10 _ _ ?_
  refine wr mixed [] hst (fun _ => .q 1 rfl <| .o (op_add z0 .k) <| .o (op_assign z0) <| .n) fun n5 a w hst => ?_
  replace hst := hst.to [2,4,5,6,7,8] [_,_,_,_,_,_] [_,_] rfl rfl
  exact hK7 _ _ _ (sj h).symm hst
 ·have hb : decide (s5.1 ≤ hi_) = false := by simpa using b3
  replace h := ite_f hb h
  have ht := hts hb
  have ec : (bif (decide (s5.1 ≤ hi_) == true) then t38 else s5.2) = s5.2 := by rw [hb]; rfl
  rw [ec] at hst
  refine wp_exit ?_
  have hr := ho _ (sj h).symm
  rw [← ht,hr] at hst
  exact ret_stN undef [0,1] hpl hst rfl .nil rfl rfl rfl

/- counts.values, by hand. -/
set_option maxRecDepth 100000 in
set_option maxHeartbeats 4000000 in
theorem counts_search_values_ok {q : Value} {s_ : Scounts_search} {kind_ : Int} {r : Int × Int} (h : fcounts_search_room s_ kind_ = some r) :
  FnOk Tryz.prog 84 [tv q,ti kind_] [box (rScounts_search.cs s_) q] (fun _ => [box (rScounts_search.cs s_) q]) (fun _ => tcloE 121 [tptr (rI.cs r.1),tptr (rI.cs r.2),tptr (rVal.cs q),tptr (rI.cs kind_)]) := by
 refine FnOk.enter Tryz.func84 rfl Tryz.ntmps84 (leb rfl) (fun M0 M w0 a hpl hst => ?_)
 replace hst : St M w0 14 [(0,tv q),(1,ti kind_)] [box (rScounts_search.cs s_) q] a w0 := hst
 refine wp_seq_k (fun K1 hK1 => ?_)
 refine wr mixed [] hst (fun _ => .u [0] rfl rfl (op_boxP z0) <| .o (op_boxR (R := rI) (u := kind_) z2) <| .o (op_assign .k) <| .n) fun n0 a w hst => ?_
 replace hst := hst.to [0,1] [_,_] [_] rfl rfl
 refine hK1 _ _ ?_
 clear hK1 K1
 refine wp_seq_k (fun K2 hK2 => ?_)
 refine wp_reg mixed [v1 6 (fun v0 => box (rI.cs (0:Int)) v0),v1 7 (fun v0 => box (rI.cs (0:Int)) v0),v1 6 (fun v0 => box (splice (rI.cs (0:Int)) 0 (rI.cs r.1)) v0),v1 7 (fun v0 => box (splice (rI.cs (0:Int)) 0 (rI.cs r.2)) v0)] hst (fun n1 => .p rfl (op_loadP tokP100 z0) <| .o (op_load (R := rI) (u := kind_) tok3 z2) <| .u [0] rfl rfl (op_callFU [box (rScounts_search.cs s_) q] call120 (counts_search_room_ok h) (.cons (.boxR z1 (.head _)) <| .cons (.of z0) <| .nil) (fun _ => flat_tup (by intro T h; simp at h; rcases h with h | h <;> subst h <;> exact flat_tv)) (fun _ => flatN0 (x := undef))) <| .q 0 rfl <| .o (op_extract z0 rfl) <| .o (op_extract z1 rfl) <| .m (f := fun p => tv p) [] [1] rfl rfl rfl (op_alloc (R := rI) (a := (0:Int)) tok3 zok3) <| .m (f := fun p => tv p) [] [2] rfl rfl rfl (op_alloc (R := rI) (a := (0:Int)) tok3 zok3) <| .e [] [1] [3] rfl rfl rfl rfl (op_storeB (R := rI) (a := r.1) tok3 z1 z3 (leb rfl)) <| .e [] [2] [4] rfl rfl rfl rfl (op_storeB (R := rI) (a := r.2) tok3 z0 z2 (leb rfl)) <| .nil _ _) (by kernel_rfl) (fun n1 a w hst => ?_)
 replace hst := hst.to [6,7,8,9] [_,_,_,_] [_,_,_] rfl rfl
 refine hK2 _ _ ?_
 clear hK2 K2
 replace hst : St _ _ _ [_,_,_,_] [_,_] _ _ := (((hst.selA [1,0,2] rfl).shareB 0 rfl).add 0 rfl (fun _ _ _ h => h.2)).pick [0,3,4,5]
 replace hst : St _ _ _ [_,_,_,_] [_] _ _ := (((hst.selA [1,0] rfl).shareB 1 rfl).add 0 rfl (fun _ _ _ h => h.2)).pick [2,0,4,5]
 refine wp_seq_k (fun K3 hK3 => ?_)
 refine wr mixed [] hst (fun _ => .o (op_clo (.cons z0 <| .cons z1 <| .cons z2 <| .cons z3 <| .nil)) <| .o (op_assign z0) <| .n) fun n2 a w hst => ?_
 replace hst := hst.to [1] [_] [_] rfl rfl
 refine hK3 _ _ ?_
 refine wp_ret ?_
 exact ret_st undef [0] hpl hst rfl (.tmp z0 .nil) rfl rfl rfl

/- diorama/counts.far -/
noncomputable def fcounts_far (a_ : Int) (b_ : Int) : Option (Int) := (some (imax (IntKind.i64.wrap (a_ - b_)) (IntKind.i64.wrap (b_ - a_))))
set_option maxRecDepth 100000 in
set_option maxHeartbeats 4000000 in
theorem counts_far_ok {a_ : Int} {b_ : Int} {r : Int} (h : fcounts_far a_ b_ = some r) : FnOk Tryz.prog 85 [ti a_,ti b_] [] (fun _ => []) (fun _ => ti r) := by
 unfold fcounts_far at h
 refine FnOk.enter Tryz.func85 rfl Tryz.ntmps85 (leb rfl) (fun M0 M w0 a hpl hst => ?_)
 replace hst : St M w0 12 [(0,ti a_),(1,ti b_)] [] a w0 := hst
 refine sr mixed [] hst (fun _ => .o (op_assign .k) <| .n) fun n0 a w hst => ?_
 replace hst := hst.to [1,2] [_,_] [] rfl rfl
 refine sr mixed [] hst (fun _ => .q 0 rfl <| .q 2 rfl <| .o (op_sub z1 z0) <| .q 4 rfl <| .q 4 rfl <| .o (op_sub z1 z0) <| .o (op_max z3 z0) <| .o (op_assign z0) <| .n) fun n1 a w hst => ?_
 replace hst := hst.to [7] [_] [] rfl rfl
 refine wp_ret ?_
 obtain rfl := sj h
 exact ret_st undef [] hpl hst rfl (.tmp z0 .nil) rfl rfl rfl

/- (*diorama/counts.search).try -/
noncomputable def fcounts_search_tryS (self : Scounts_search → Int → Int → Option (Scounts_search)) (s_ : Scounts_search) (kind_ : Int) (cost_ : Int) : Option (Scounts_search) := (if ((decide ((s_).cost ≥ (0:Int))) && (decide (cost_ > (s_).cost))) = true then (some s_) else (if (kind_ == ((s_).want.length : Int)) = true then (opt ((((decide ((s_).cost < (0:Int))) || (decide (cost_ < (s_).cost))) == false) && ((!eqScounts_numbers (s_).now (s_).best) == true)) (fslices_Compare_int ((s_).now).L ((s_).best).L) default).bind fun t59 => ((if (((decide ((s_).cost < (0:Int))) || (decide (cost_ < (s_).cost))) || ((!eqScounts_numbers (s_).now (s_).best) && (decide (t59 < (0:Int))))) = true then (some (Scounts_search.mk (s_).limits (s_).want (s_).leads (s_).now (s_).now cost_)) else (some s_))).bind fun (p9 : Scounts_search) => (some p9) else (fcounts_search_room s_ kind_).bind fun t76 => (fcounts_search_valuesq1 (fun s15 n16 => (idx ((s15).now).L kind_).bind fun t83 => (idx (s15).want kind_).bind fun t94 => (fcounts_far n16 t94).bind fun t96 => (self (Scounts_search.mk (s15).limits (s15).want (s15).leads (((s15).now).setI kind_ n16) (s15).best (s15).cost) (IntKind.i64.wrap (kind_ + (1:Int))) (IntKind.i64.wrap (cost_ + t96))).bind fun t98 => (some t98)) s_ (t76).1 (t76).2 kind_).bind fun t14 => (idx ((t14).now).L kind_).bind fun t103 => (some (Scounts_search.mk (t14).limits (t14).want (t14).leads (((t14).now).setI kind_ (0:Int)) (t14).best (t14).cost))))
set_option maxRecDepth 100000 in
set_option maxHeartbeats 4000000 in
theorem counts_search_try_okS {self : Scounts_search → Int → Int → Option (Scounts_search)} (hself : ∀ (q0 : Value) (s_ : Scounts_search) (kind_ : Int) (cost_ : Int) (r : Scounts_search),self s_ kind_ cost_ = some r → FnOk Tryz.prog 50 [tv q0,ti kind_,ti cost_] [box (rScounts_search.cs s_) q0] (fun _ => [box (rScounts_search.cs r) q0]) (fun _ => ttup [])) {q0 : Value} {s_ : Scounts_search} {kind_ : Int} {cost_ : Int} {r : Scounts_search} (h : fcounts_search_tryS self s_ kind_ cost_ = some r) : FnOk Tryz.prog 50 [tv q0,ti kind_,ti cost_] [box (rScounts_search.cs s_) q0] (fun _ => [box (rScounts_search.cs r) q0]) (fun _ => ttup []) := by
 unfold fcounts_search_tryS at h
 refine FnOk.enterM Tryz.func50 rfl Tryz.ntmps50 (leb rfl) (fun M0 M w0 a hpl hst => ?_)
 replace hst : St M w0 104 [(0,tv q0),(1,ti kind_),(2,ti cost_)] [box (rScounts_search.cs s_) q0] a w0 := hst
 refine sr mixed [] hst (fun _ => .u [0] rfl rfl (op_boxP z0) <| .o (op_boxR (R := rI) (u := kind_) z2) <| .o (op_boxR (R := rI) (u := cost_) z4) <| .n) fun n0 a w hst => ?_
 replace hst := hst.to [0,1,2,3] [_,_,_,_] [_] rfl rfl
 refine wp_seq_k (fun K3 hK3 => ?_)
 refine sr mixed [] hst (fun _ => .o (op_loadP tokP100 z0) <| .u [0] rfl rfl (op_nilB z0) <| .u [0] rfl rfl (op_fieldB fld105_5 z0) <| .u [0] rfl rfl (op_loadBf (R := rI) (u := (s_).cost) tok3 z0 rfl) <| .o (op_geq z0 .k) <| .q 0 rfl <| .g rfl rfl (.b 0 rfl) (fun _ => op_load tok3 z8) <| .g rfl rfl (.b 1 rfl) (fun _ => op_loadP tokP100 z7) <| .gu [0] rfl rfl rfl (.b 2 rfl) (fun hc => op_nilB (.cond z0 hc)) <| .gu [0] rfl rfl rfl (.b 3 rfl) (fun hc => op_fieldB fld105_5 (.cond z0 hc)) <| .gu [0] rfl rfl rfl (.b 4 rfl) (fun hc => op_loadBf (R := rI) (u := (s_).cost) tok3 (.cond z0 hc) rfl) <| .g rfl rfl (.b 5 rfl) (fun hc => op_gtr (.cond z4 hc) (.cond z0 hc)) <| .o (op_and z6 (fun hp => (.cond z0 (beqT hp)))) <| .n) fun n1 a w hst => ?_
 replace hst := hst.to [12,13,14,15,16] [_,_,_,_,_] [_] rfl rfl
 refine wt hst (fun b22 => ?_) (fun b22 => ?_)
 ·replace h := ite_t b22 h
  refine wp_ret ?_
  obtain rfl := sj h
  exact retM_nil (ret_st undef [0] hpl hst rfl .nil rfl rfl rfl)
 ·replace h := ite_f b22 h
  refine wp_skip ?_
  refine hK3 _ _ ?_
  try clear hK3 K3
  refine wp_seq_k (fun K5 hK5 => ?_)
  refine sr mixed [] hst (fun _ => .o (op_load tok3 z2) <| .o (op_loadP tokP100 z2) <| .u [0] rfl rfl (op_nilB z0) <| .u [0] rfl rfl (op_fieldB fld105_1 z0) <| .u [0] rfl rfl (op_loadBf (R := (rSl rI)) (u := (s_).want) tok22 z0 rfl) <| .o (op_len ud22 z0) <| .o (op_eql z5 z0) <| .n) fun n2 a w hst => ?_
  replace hst := hst.to [6,8,9,10,11] [_,_,_,_,_] [_] rfl rfl
  refine wt hst (fun b21 => ?_) (fun b21 => ?_)
  ·replace h := ite_t b21 h
   refine wp_seq_k (fun K7 hK7 => ?_)
   obtain ⟨t59,ht59,h⟩ := bind_some h
   refine sr mixed [] hst (fun _ => .o (op_loadP tokP100 z1) <| .u [0] rfl rfl (op_nilB z0) <| .u [0] rfl rfl (op_fieldB fld105_5 z0) <| .u [0] rfl rfl (op_loadBf (R := rI) (u := (s_).cost) tok3 z0 rfl) <| .o (op_lss z0 .k) <| .q 0 rfl <| .g rfl rfl (.b 0 rfl) (fun _ => op_load tok3 z9) <| .g rfl rfl (.b 1 rfl) (fun _ => op_loadP tokP100 z8) <| .gu [0] rfl rfl rfl (.b 2 rfl) (fun hc => op_nilB (.cond z0 hc)) <| .gu [0] rfl rfl rfl (.b 3 rfl) (fun hc => op_fieldB fld105_5 (.cond z0 hc)) <| .gu [0] rfl rfl rfl (.b 4 rfl) (fun hc => op_loadBf (R := rI) (u := (s_).cost) tok3 (.cond z0 hc) rfl) <| .g rfl rfl (.b 5 rfl) (fun hc => op_lss (.cond z4 hc) (.cond z0 hc)) <| .o (op_or z6 (fun hp => (.cond z0 (beqF hp)))) <| .q 0 rfl <| .g rfl rfl (.b 0 rfl) (fun _ => op_loadP tokP100 z15) <| .gu [0] rfl rfl rfl (.b 1 rfl) (fun hc => op_nilB (.cond z0 hc)) <| .gu [0] rfl rfl rfl (.b 2 rfl) (fun hc => op_fieldB fld105_3 (.cond z0 hc)) <| .gu [0] rfl rfl rfl (.b 3 rfl) (fun hc => op_loadBf (R := rScounts_numbers) (u := (s_).now) tok103 (.cond z0 hc) rfl) <| .g rfl rfl (.b 4 rfl) (fun _ => op_loadP tokP100 z19) <| .gu [0] rfl rfl rfl (.b 5 rfl) (fun hc => op_nilB (.cond z0 hc)) <| .gu [0] rfl rfl rfl (.b 6 rfl) (fun hc => op_fieldB fld105_4 (.cond z0 hc)) <| .gu [0] rfl rfl rfl (.b 7 rfl) (fun hc => op_loadBf (R := rScounts_numbers) (u := (s_).best) tok103 (.cond z0 hc) rfl) <| .g rfl rfl (.b 8 rfl) (fun hc => op_neq_t103 (.cond z4 hc) (.cond z0 hc)) <| .g rfl rfl (.b 9 rfl) (fun hc => op_move (.cond z0 hc)) <| .g rfl rfl (.c 0 rfl) (fun _ => op_loadP tokP100 z25) <| .gu [0] rfl rfl rfl (.c 1 rfl) (fun hc => op_nilB (.cond z0 hc)) <| .gu [0] rfl rfl rfl (.c 2 rfl) (fun hc => op_fieldB fld105_3 (.cond z0 hc)) <| .gu [0] rfl rfl rfl (.c 3 rfl) (fun hc => op_sliceAB (j := (6:Int)) ud103 tok3 (.cond z0 hc) (.no _) (by decide) (by decide)) <| .g rfl rfl (.c 4 rfl) (fun _ => op_loadP tokP100 z29) <| .gu [0] rfl rfl rfl (.c 5 rfl) (fun hc => op_nilB (.cond z0 hc)) <| .gu [0] rfl rfl rfl (.c 6 rfl) (fun hc => op_fieldB fld105_4 (.cond z0 hc)) <| .gu [0] rfl rfl rfl (.c 7 rfl) (fun hc => op_sliceAB (j := (6:Int)) ud103 tok3 (.cond z0 hc) (.no _) (by decide) (by decide)) <| .gu [0] rfl rfl rfl (.c 8 rfl) (fun hc => op_callFU [box (rScounts_search.cs s_) q0] call83 (slices_Compare_int_ok (opt_t ht59 hc)) (.cons (.asl (L := ((s_).now).L) (.cond z4 hc) (.head _) rfl (leb rfl) rfl) <| .cons (.asl (L := ((s_).best).L) (.cond z0 hc) (.head _) rfl (leb rfl) rfl) <| .nil) (fun _ => flat_tv) (fun _ => flatN0 (x := undef))) <| .g rfl rfl (.c 9 rfl) (fun hc => op_lss (.cond z0 hc) .k) <| .g rfl rfl (.b 20 rfl) (fun hc => op_and (.cond z10 hc) (fun hp => (.cond z0 (band_mk hc (beqT hp))))) <| .o (op_or z21 (fun hp => (.cond z0 (beqF hp)))) <| .n) fun n3 a w hst => ?_
   replace hst := hst.to [35,37,39,40] [_,_,_,_] [_] rfl rfl
   obtain ⟨p9,hp9,h⟩ := bind_some h
   have hJp9 : ∀ a w,St M w0 104 [(0,tv q0)] [box (rScounts_search.cs p9) q0] a w → K7 a w := by
    intro a w hst
    refine hK7 _ _ ?_
    try clear hK7 K7
    refine wp_ret ?_
    obtain rfl := sj h
    exact retM_nil (ret_st undef [0] hpl hst rfl .nil rfl rfl rfl)
   replace h := hp9
   clear hp9
   refine wt hst (fun b11 => ?_) (fun b11 => ?_)
   ·replace h := ite_t b11 h
    refine wr mixed [v0 (box (rScounts_search.cs (Scounts_search.mk (s_).limits (s_).want (s_).leads (s_).now (s_).now (s_).cost)) q0),v0 (box (rScounts_search.cs (Scounts_search.mk (s_).limits (s_).want (s_).leads (s_).now (s_).now cost_)) q0)] hst (fun _ => .o (op_loadP tokP100 z1) <| .o (op_loadP tokP100 z2) <| .o (op_loadP tokP100 z3) <| .u [0] rfl rfl (op_nilB z0) <| .u [0] rfl rfl (op_fieldB fld105_3 z0) <| .u [0] rfl rfl (op_loadBf (R := rScounts_numbers) (u := (s_).now) tok103 z0 rfl) <| .o (op_load tok3 z8) <| .u [0] rfl rfl (op_nilB z6) <| .u [0] rfl rfl (op_fieldB fld105_4 z0) <| .e [] [0] [1] rfl rfl rfl rfl (op_storeBf (R := rScounts_numbers) (a := (s_).now) (Ts := (rScounts_search.cs s_)) (off := 9) tok103 z0 z3 (leb rfl)) <| .u [1] rfl rfl (op_nilB z7) <| .u [1] rfl rfl (op_fieldB fld105_5 z0) <| .e [] [1] [2] rfl rfl rfl rfl (op_storeBf (R := rI) (a := cost_) (Ts := (rScounts_search.cs (Scounts_search.mk (s_).limits (s_).want (s_).leads (s_).now (s_).now (s_).cost))) (off := 15) tok3 z0 z4 (leb rfl)) <| .n) fun n4 a w hst => ?_
    replace hst := hst.to [14] [_] [_] rfl rfl
    obtain rfl := sj h
    exact hJp9 _ _ (hst.pick [0])
   ·replace h := ite_f b11 h
    refine wp_skip ?_
    obtain rfl := sj h
    exact hJp9 _ _ (hst.pick [3])
  ·replace h := ite_f b21 h
   refine wp_skip ?_
   refine hK5 _ _ ?_
   try clear hK5 K5
   refine wp_seq_k (fun K12 hK12 => ?_)
   obtain ⟨t76,ht76,h⟩ := bind_some h
   refine sr mixed [v0 (box (rScounts_search.cs s_) q0)] hst (fun _ => .o (op_loadP tokP100 z1) <| .o (op_load tok3 z3) <| .e [] [0] [1] rfl rfl rfl rfl (op_callF call84 (counts_search_values_ok ht76) (.cons (.of z1) <| .cons (.of z0) <| .nil)) <| .n) fun n5 a w hst => ?_
   replace hst := hst.to [2,4,5,6,7] [_,_,_,_,_] [_] rfl rfl
   refine wp_block ?_
   obtain ⟨t14,ht14,h⟩ := bind_some h
   refine wp_rangeFY (A := fun s => [box (rScounts_search.cs s) q0]) hst z0 call121 (fun l LR hY => counts_search_valuesq1_ok hY ht14) (by decide) rfl (fun s15 n16 r17 h M0 M w0 a l LR LB K Q hpl hst hK hQ => ?_) (fun D a w M hpm hst => ?_)
   ·refine wp_rgR mixed rfl [] hst (fun _ => .o (op_assign z0) <| .nil _ _) (by kernel_rfl) (fun n6 a w hst => ?_)
    replace hst := hst.to [0,3,4,5,6] [_,_,_,_,_] [_,_] rfl rfl
    refine hK _ _ _ _ hst (fun w hst => ?_)
    refine wpIn_block ?_
    refine wpIn_seq_k (fun K19 hK19 => ?_)
    obtain ⟨t83,ht83,h⟩ := bind_some h
    refine wp_rgR mixed rfl [v0 (box (rScounts_search.cs (Scounts_search.mk (s15).limits (s15).want (s15).leads (((s15).now).setI kind_ n16) (s15).best (s15).cost)) q0)] hst (fun _ => .o (op_loadP tokP100 z1) <| .o (op_load tok3 z3) <| .q 2 rfl <| .u [1] rfl rfl (op_nilB z2) <| .u [1] rfl rfl (op_fieldB fld105_3 z0) <| .u [1] rfl rfl (op_idxABd (L := ((s15).now).L) ud103 tok3 rfl z0 z3 rfl ht83) <| .e [] [1] [2] rfl rfl rfl rfl (op_storeBd (a := n16) (Ts := (rScounts_search.cs s15)) (o := 3) (L := ((s15).now).L) tok3 rfl z0 z3 ht83 (leb rfl) (Scounts_numbers.spl (pre := List.take 3 (rScounts_search.cs s15)) (post := List.drop 9 (rScounts_search.cs s15)) rfl ht83)) <| .nil _ _) (by kernel_rfl) (fun n7 a w hst => ?_)
    replace hst := hst.to [6,7,8,9,10] [_,_,_,_,_] [_,_] rfl rfl
    refine hK19 _ _ ?_
    try clear hK19 K19
    obtain ⟨t94,ht94,h⟩ := bind_some h
    obtain ⟨t96,ht96,h⟩ := bind_some h
    obtain ⟨t98,ht98,h⟩ := bind_some h
    refine wp_rgR mixed rfl [v0 (box (rScounts_search.cs t98) q0)] hst (fun _ => .o (op_loadP tokP100 z1) <| .o (op_load tok3 z3) <| .o (op_add z0 .k) <| .o (op_load tok3 z6) <| .q 4 rfl <| .o (op_loadP tokP100 z6) <| .u [1] rfl rfl (op_nilB z0) <| .u [1] rfl rfl (op_fieldB fld105_1 z0) <| .u [1] rfl rfl (op_loadBf (R := (rSl rI)) (u := (s15).want) tok22 z0 rfl) <| .o (op_load tok3 z11) <| .o (op_index ud22 tok3 z1 z0 ht94) <| .o (op_load tok3 z0) <| .o (op_callF call85 (counts_far_ok ht96) (.cons (.of z7) <| .cons (.of z0) <| .nil)) <| .o (op_add z9 z0) <| .e [] [1] [2] rfl rfl rfl rfl (op_callF call50 (hself _ _ _ _ _ ht98) (.cons (.of z13) <| .cons (.of z11) <| .cons (.of z0) <| .nil)) <| .nil _ _) (by kernel_rfl) (fun n8 a w hst => ?_)
    replace hst := hst.to [16,17,18,19] [_,_,_,_] [_,_] rfl rfl
    obtain rfl := sj h
    exact hQ _ [0,1] _ _ _ hst rfl rfl
   ·replace hpl := hpm _ _ hpl
    replace hst := hst.to [1,2,3,4] [_,_,_,_] [_,_] rfl rfl
    refine hK12 _ _ ?_
    try clear hK12 K12
    obtain ⟨t103,ht103,h⟩ := bind_some h
    refine wr mixed [v0 (box (rScounts_search.cs (Scounts_search.mk (t14).limits (t14).want (t14).leads (((t14).now).setI kind_ (0:Int)) (t14).best (t14).cost)) q0)] hst (fun _ => .o (op_loadP tokP100 z0) <| .o (op_load tok3 z2) <| .u [1] rfl rfl (op_nilB z1) <| .u [1] rfl rfl (op_fieldB fld105_3 z0) <| .u [1] rfl rfl (op_idxABd (L := ((t14).now).L) ud103 tok3 rfl z0 z2 rfl ht103) <| .e [] [1] [2] rfl rfl rfl rfl (op_storeBd (a := (0:Int)) (Ts := (rScounts_search.cs t14)) (o := 3) (L := ((t14).now).L) tok3 rfl z0 .k ht103 (leb rfl) (Scounts_numbers.spl (pre := List.take 3 (rScounts_search.cs t14)) (post := List.drop 9 (rScounts_search.cs t14)) rfl ht103)) <| .n) fun n9 a w hst => ?_
    replace hst := hst.to [8] [_] [_,_] rfl rfl
    obtain rfl := sj h
    exact retM_mark undef [1] hpl hst rfl .nil rfl rfl rfl
noncomputable def gcounts_search_tryN : Nat → Scounts_search → Int → Int → Option (Scounts_search)
 | 0 => fun _ _ _ => none
 | n + 1 => fcounts_search_tryS (gcounts_search_tryN n)
theorem gcounts_search_tryN_ok : ∀ (n : Nat) (q0 : Value) (s_ : Scounts_search) (kind_ : Int) (cost_ : Int) (r : Scounts_search),gcounts_search_tryN n s_ kind_ cost_ = some r → FnOk Tryz.prog 50 [tv q0,ti kind_,ti cost_] [box (rScounts_search.cs s_) q0] (fun _ => [box (rScounts_search.cs r) q0]) (fun _ => ttup [])
 | 0,_,_,_,_,r,h => by cases h
 | n + 1,q0,s_,kind_,cost_,r,h => counts_search_try_okS (fun q0 s_ kind_ cost_ r h => gcounts_search_tryN_ok n q0 s_ kind_ cost_ r h) h
noncomputable def fcounts_search_try (s_ : Scounts_search) (kind_ : Int) (cost_ : Int) : Option (Scounts_search) := gcounts_search_tryN ((s_).want.length + 2) s_ kind_ cost_
theorem counts_search_try_ok {q0 : Value} {s_ : Scounts_search} {kind_ : Int} {cost_ : Int} {r : Scounts_search} (h : fcounts_search_try s_ kind_ cost_ = some r) : FnOk Tryz.prog 50 [tv q0,ti kind_,ti cost_] [box (rScounts_search.cs s_) q0] (fun _ => [box (rScounts_search.cs r) q0]) (fun _ => ttup []) := gcounts_search_tryN_ok _ _ _ _ _ _ h

/- slices.Clone[[]int,int] -/
noncomputable def fslices_Clone_int (s_ : (List Int)) : Option ((List Int)) := (rm (([] : List Int).length + s_.length)).bind fun _ => (some (([] : List Int) ++ s_))
set_option maxRecDepth 100000 in
set_option maxHeartbeats 4000000 in
theorem slices_Clone_int_ok {s_ : (List Int)} {r : (List Int)} (h : fslices_Clone_int s_ = some r) : FnOk Tryz.prog 51 [tsl rI s_] [] (fun v => [own rI 3 r v]) (fun v => tv v) := by
 unfold fslices_Clone_int at h
 refine FnOk.enter Tryz.func51 rfl Tryz.ntmps51 (leb rfl) (fun M0 M w0 a hpl hst => ?_)
 replace hst : St M w0 8 [(0,tsl rI s_)] [] a w0 := hst
 refine sr mixed [] hst (fun _ => .o (op_assign .k) <| .n) fun n0 a w hst => ?_
 replace hst := hst.to [1] [_] [] rfl rfl
 refine wp_seq_k (fun K2 hK2 => ?_)
 refine sr mixed [] hst (fun _ => .q 0 rfl <| .o (op_eqNil' ud22 z0) <| .n) fun n1 a w hst => ?_
 replace hst := hst.to [1,2] [_,_] [] rfl rfl
 refine wp_test_nil 0 hst rfl (fun b8 => ?_) ?_
 ·replace h : (some ([] : List Int)) = some r := by
   obtain ⟨_,_,h⟩ := bind_some h
   rw [b8] at h
   exact h
  refine sr mixed [] hst (fun _ => .o (op_assign .k) <| .n) fun n2 a w hst => ?_
  replace hst : St _ _ _ [_] [_] _ _ := (hst.pick [0]).nil (rI) 3
  refine wp_ret ?_
  obtain rfl := sj h
  exact ret_st (.slice none 0 0) [0] hpl hst rfl (.tmp z0 .nil) rfl rfl rfl
 ·refine wp_skip ?_
  refine hK2 _ _ ?_
  try clear hK2 K2
  refine wp_seq_k (fun K6 hK6 => ?_)
  obtain ⟨u7,hu7,h⟩ := bind_some h
  refine wr mixed [v1 0 (fun v0 => own rI 3 ([] : List Int) v0),v1 2 (fun v0 => own rI 3 (([] : List Int) ++ s_) v0)] hst (fun _ => .m [] [0] rfl rfl rfl (op_buildSlO (R := rI) (us := ([] : List Int)) ud22 tok3 (.nil _) rfl (leb rfl) (leb rfl)) <| .q 2 rfl <| .e [] [0] [1] rfl rfl rfl rfl (op_append (R := rI) ud22 tok3 (leb rfl) z1 z0 hu7) <| .ud (f := fun v => tv v) 2 rfl [] rfl rfl (op_assign z0) <| .n) fun n3 a w hst => ?_
  replace hst := hst.to [2,3] [_,_] [_] rfl rfl
  refine hK6 _ _ ?_
  try clear hK6 K6
  refine wp_ret ?_
  obtain rfl := sj h
  exact ret_st (n3 2) [0] hpl hst rfl (.tmp z1 .nil) rfl rfl rfl

/- diorama/counts.Plan -/
noncomputable def fcounts_Plan (x_ : Sapi_Schema) (want_ : (List Int)) : Option ((List Int) × Int) := (fcounts_Limits x_).bind fun t17 => (if (t17.2.2 != (0:Int)) = true then (some (([] : List Int),t17.2.2)) else (opt (((want_.length : Int) != ((x_).Kinds.length : Int)) == false) (fslices_ContainsFunc_int want_ (fun x0 => fcounts_Planq1 x0)) default).bind fun t32 => (if (((want_.length : Int) != ((x_).Kinds.length : Int)) || t32) = true then (some (([] : List Int),(1:Int))) else (mk (want_.length : Int) false).bind fun t38 => (tailrec (fun (s14 : Int × List Bool) => ((if (decide (s14.1 < (t17.1.length : Int))) = true then (idx t17.1 s14.1).bind fun t45 => ((if (decide ((t45).B ≥ (0:Int))) = true then (setAt s14.2 (t45).B true).bind fun t56s => (some t56s) else (some s14.2))).bind fun (p92 : List Bool) => (some (.inl ((IntKind.i64.wrap (s14.1 + (1:Int))),p92))) else (some (.inr s14.2))) : Option ((Int × List Bool) ⊕ ((List Bool))))) ((0:Int),t38)).bind fun (p36 : (List Bool)) => (tailrec (fun (s40 : Int × Int) => ((if (decide (s40.1 < ((x_).Kinds.length : Int))) = true then (idx (x_).Kinds s40.1).bind fun t64 => (idx p36 s40.1).bind fun t71 => ((if (t71 && (decide (s40.2 ≤ (131072:Int)))) = true then (some (IntKind.i64.wrap (s40.2 * (IntKind.i64.wrap ((IntKind.i64.wrap ((t64).Hi - (t64).Lo)) + (1:Int)))))) else (some s40.2))).bind fun (p81 : Int) => (some (.inl ((IntKind.i64.wrap (s40.1 + (1:Int))),p81))) else (some (.inr s40.2))) : Option ((Int × Int) ⊕ ((Int))))) ((0:Int),(1:Int))).bind fun (p62 : (Int)) => (if (decide (p62 > (131072:Int))) = true then (some (([] : List Int),(4:Int))) else (fcounts_search_try (Scounts_search.mk t17.1 want_ p36 zz5 zz5 (-1:Int)) (0:Int) (0:Int)).bind fun t89 => (if (decide ((t89).cost < (0:Int))) = true then (some (([] : List Int),(14:Int))) else (sub ((t89).best).L (0:Int) (want_.length : Int)).bind fun t100 => (fslices_Clone_int t100).bind fun t101 => (some (t101,(0:Int)))))))
set_option maxRecDepth 100000 in
set_option maxHeartbeats 4000000 in
theorem counts_Plan_ok {x_ : Sapi_Schema} {want_ : (List Int)} {r : (List Int) × Int} (h : fcounts_Plan x_ want_ = some r) : FnOk Tryz.prog 23 [rSapi_Schema.ty x_,tsl rI want_] [glo] (fun _ => []) (fun _ => ttup [tsl rI r.1,ti r.2]) := by
 unfold fcounts_Plan at h
 refine FnOk.enter Tryz.func23 rfl Tryz.ntmps23 (leb rfl) (fun M0 M w0 a hpl hst => ?_)
 replace hst : St M w0 102 [(0,rSapi_Schema.ty x_),(1,tsl rI want_)] [glo] a w0 := hst
 refine sr mixed [] hst (fun _ => .o (op_boxR (R := rSapi_Schema) (u := x_) z0) <| .o (op_assign (.nilsl (R := rI))) <| .o (op_assign .k) <| .n) fun n0 a w hst => ?_
 replace hst := hst.to [0,4] [_,_] [_] rfl rfl
 obtain ⟨t17,ht17,h⟩ := bind_some h
 refine sr mixed [] hst (fun _ => .o (op_load tok27 z0) <| .u [0] rfl rfl ((op_callF call12 (counts_Limits_ok ht17) (.cons (.of z0) <| .nil)).glo) <| .q 0 rfl <| .o (op_extract z0 rfl) <| .o (op_extract z1 rfl) <| .o (op_extract z2 rfl) <| .o (op_assign z2) <| .o (op_assign z2) <| .o (op_assign z2) <| .n) fun n1 a w hst => ?_
 replace hst := hst.to [6,8,9,10] [_,_,_,_] [_] rfl rfl
 refine wp_seq_k (fun K3 hK3 => ?_)
 refine sr mixed [] hst (fun _ => .q 1 rfl <| .o (op_neq z0 .k) <| .n) fun n2 a w hst => ?_
 replace hst := hst.to [1,2,3,4,5] [_,_,_,_,_] [_] rfl rfl
 refine wt hst (fun b97 => ?_) (fun b97 => ?_)
 ·replace h := ite_t b97 h
  refine sr mixed [] hst (fun _ => .q 2 rfl <| .o (op_assign (.nilsl (R := rI))) <| .o (op_assign z1) <| .n) fun n3 a w hst => ?_
  replace hst := hst.to [1,2] [_,_] [_] rfl rfl
  refine wp_ret ?_
  obtain rfl := sj h
  exact ret_st undef [] hpl hst rfl (.tmp z0 (.tmp z1 .nil)) rfl rfl rfl
 ·replace h := ite_f b97 h
  refine wp_skip ?_
  refine hK3 _ _ ?_
  try clear hK3 K3
  refine wp_seq_k (fun K6 hK6 => ?_)
  obtain ⟨t32,ht32,h⟩ := bind_some h
  refine sr mixed [] hst (fun _ => .q 4 rfl <| .o (op_len ud22 z0) <| .o (op_field fld27_1 z5) <| .o (op_loadT (R := (rSl rSapi_Kind)) (u := (x_).Kinds) tok23 z0 rfl) <| .o (op_len ud23 z0) <| .o (op_neq z3 z0) <| .q 0 rfl <| .g rfl rfl (.b 0 rfl) (fun _ => op_move z11) <| .g rfl rfl (.b 1 rfl) (fun hc => op_callF call43 (slices_ContainsFunc_int_ok (opt_t ht32 hc)) (.cons (.of (.cond z0 hc)) <| .cons (.of (Fct.weak .fnE (tfn_of call49 (fun _ _ hq => counts_Planq1_ok hq)))) <| .nil)) <| .o (op_or z2 (fun hp => (.cond z0 (beqF hp)))) <| .n) fun n4 a w hst => ?_
  replace hst := hst.to [9,11,13,14] [_,_,_,_] [_] rfl rfl
  refine wt hst (fun b96 => ?_) (fun b96 => ?_)
  ·replace h := ite_t b96 h
   refine sr mixed [] hst (fun _ => .o (op_assign (.nilsl (R := rI))) <| .o (op_assign .k) <| .n) fun n5 a w hst => ?_
   replace hst := hst.to [0,1] [_,_] [_] rfl rfl
   refine wp_ret ?_
   obtain rfl := sj h
   exact ret_st undef [] hpl hst rfl (.tmp z0 (.tmp z1 .nil)) rfl rfl rfl
  ·replace h := ite_f b96 h
   refine wp_skip ?_
   refine hK6 _ _ ?_
   try clear hK6 K6
   refine wp_seq_k (fun K9 hK9 => ?_)
   obtain ⟨t38,ht38,h⟩ := bind_some h
   refine wp_reg mixed [v1 4 (fun v0 => own rBool 4 t38 v0),v2 4 6 (fun v0 v1 => box ([tsl rScounts_Limit t17.1,tsl rI want_,tvs v0] ++ rScounts_numbers.cs zz5 ++ rScounts_numbers.cs zz5 ++ [ti (-1:Int)]) v1)] hst (fun n6 => .q 1 rfl <| .q 4 rfl <| .q 5 rfl <| .o (op_len ud22 z0) <| .m [] [1] rfl rfl rfl (op_makeO (R := rBool) ud101 tok4 zok4 (leb rfl) z0 z0 ht38) <| .ud (f := fun v => tagg ([tsl rScounts_Limit t17.1,tsl rI want_,tvs v] ++ rScounts_numbers.cs zz5 ++ rScounts_numbers.cs zz5 ++ [ti (-1:Int)])) 4 rfl [1] rfl rfl (.say (A := own rBool 4 t38 (n6 4)) (.head _) (fun _ _ h => own_one h) fun hu1 => OpJ.useMore (U := []) (fun A hA => by cases hA) (op_build Tryz.underlying105 pl105 zv105 zc105 (.cons (R := (rSl rScounts_Limit)) (u := t17.1) rfl z4 (leb rfl) <| .cons (R := (rSl rI)) (u := want_) rfl z3 (leb rfl) <| .cons (R := rVal) (u := (n6 4)) rfl (Fct.weak z0 fun _ _ _ h => ⟨h,hu1⟩) (leb rfl) <| .cons (R := rI) (u := (-1:Int)) rfl .k (leb rfl) <| .nil _))) <| .m [] [2] rfl rfl rfl (op_box (R := (rAgg ([tsl rScounts_Limit t17.1,tsl rI want_,tvs (n6 4)] ++ rScounts_numbers.cs zz5 ++ rScounts_numbers.cs zz5 ++ [ti (-1:Int)]) (one_app (one_app (one_app (one_cons one_tsl (one_cons one_tsl (one_cons one_tvs one_nil))) (one_rep rScounts_numbers)) (one_rep rScounts_numbers)) (one_cons (one_tv rfl) one_nil)))) (u := ()) z0) <| .ud (f := fun v => tv v) 6 rfl [] rfl rfl (op_assign z0) <| .nil _ _) (by kernel_rfl) (fun n6 a w hst => ?_)
   replace hst := hst.to [4,7,9,10,11] [_,_,_,_,_] [_,_,_] rfl rfl
   refine hK9 _ _ ?_
   try clear hK9 K9
   refine wp_seq_k (fun K12 hK12 => ?_)
   refine sr mixed [] hst (fun _ => .q 2 rfl <| .o (op_len ud31 z0) <| .o (op_move .k) <| .n) fun n7 a w hst => ?_
   replace hst := hst.to [0,1,2,3,4,6,7] [_,_,_,_,_,_,_] [_,_,_] rfl rfl
   obtain ⟨e15,he15,h⟩ := bind_some h
   have hJp36 : ∀ (p36 : List Bool) a w,p36 = e15 → St M w0 102 [(9,tv (n6 6)),(2,tptr (rSapi_Schema.cs x_)),(1,tsl rI want_)] [glo,own rBool 4 p36 (n6 4),box ([tsl rScounts_Limit t17.1,tsl rI want_,tvs (n6 4)] ++ rScounts_numbers.cs zz5 ++ rScounts_numbers.cs zz5 ++ [ti (-1:Int)]) (n6 6)] a w → K12 a w := by
    intro p36 a w he hst
    subst he
    refine hK12 _ _ ?_
    try clear hK12 K12
    refine sr mixed [] hst (fun _ => .o (op_assign .k) <| .n) fun n13 a w hst => ?_
    replace hst := hst.to [0,1,2,3] [_,_,_,_] [_,_,_] rfl rfl
    refine wp_seq_k (fun K38 hK38 => ?_)
    refine sr mixed [] hst (fun _ => .o (op_field fld27_1 z2) <| .o (op_loadT (R := (rSl rSapi_Kind)) (u := (x_).Kinds) tok23 z0 rfl) <| .o (op_len ud23 z0) <| .o (op_move .k) <| .n) fun n14 a w hst => ?_
    replace hst := hst.to [1,2,3,4,5,7] [_,_,_,_,_,_] [_,_,_] rfl rfl
    obtain ⟨e41,he41,h⟩ := bind_some h
    have hJp62 : ∀ (p62 : Int) a w,p62 = e41 → St M w0 102 [(12,ti p62),(9,tv (n6 6)),(1,tsl rI want_)] [glo,own rBool 4 p36 (n6 4),box ([tsl rScounts_Limit t17.1,tsl rI want_,tvs (n6 4)] ++ rScounts_numbers.cs zz5 ++ rScounts_numbers.cs zz5 ++ [ti (-1:Int)]) (n6 6)] a w → K38 a w := by
     intro p62 a w he hst
     subst he
     refine hK38 _ _ ?_
     try clear hK38 K38
     refine wp_seq_k (fun K63 hK63 => ?_)
     refine sr mixed [] hst (fun _ => .q 0 rfl <| .o (op_gtr z0 .k) <| .n) fun n20 a w hst => ?_
     replace hst := hst.to [1,3,4] [_,_,_] [_,_,_] rfl rfl
     refine wt hst (fun b73 => ?_) (fun b73 => ?_)
     ·replace h := ite_t b73 h
      refine sr mixed [] hst (fun _ => .o (op_assign (.nilsl (R := rI))) <| .o (op_assign .k) <| .n) fun n21 a w hst => ?_
      replace hst : St _ _ _ [_,_] [_] _ _ := (hst.pick [0,1]).selA [0] rfl
      refine wp_ret ?_
      obtain rfl := sj h
      exact ret_st undef [] hpl hst rfl (.tmp z0 (.tmp z1 .nil)) rfl rfl rfl
     ·replace h := ite_f b73 h
      refine wp_skip ?_
      refine hK63 _ _ ?_
      try clear hK63 K63
      refine wp_seq_k (fun K66 hK66 => ?_)
      refine wp_seq_k (fun K67 hK67 => ?_)
      replace hst : St _ _ _ [_,_,_] [_,_] _ _ := ((hst.pick [0,1,2]).selA [1,2,0] rfl).shareC 2 rfl
      obtain ⟨t89,ht89,h⟩ := bind_some h
      refine wr mixed [v0 (box (rScounts_search.cs t89) (n6 6))] hst (fun _ => .q 1 rfl <| .e [] [0] [2] rfl rfl rfl rfl (op_callF call50 (counts_search_try_ok ht89) (.cons (.of z0) <| .cons (.of .k) <| .cons (.of .k) <| .nil)) <| .n) fun n22 a w hst => ?_
      replace hst := hst.to [3,4] [_,_] [_,_] rfl rfl
      refine hK67 _ _ ?_
      try clear hK67 K67
      refine sr mixed [] hst (fun _ => .q 0 rfl <| .u [1] rfl rfl (op_nilB z0) <| .u [1] rfl rfl (op_fieldB fld105_5 z0) <| .u [1] rfl rfl (op_loadBf (R := rI) (u := (t89).cost) tok3 z0 rfl) <| .o (op_lss z0 .k) <| .n) fun n23 a w hst => ?_
      replace hst := hst.to [4,5,6] [_,_,_] [_,_] rfl rfl
      refine wt hst (fun b72 => ?_) (fun b72 => ?_)
      ·replace h := ite_t b72 h
       refine sr mixed [] hst (fun _ => .o (op_assign (.nilsl (R := rI))) <| .o (op_assign .k) <| .n) fun n24 a w hst => ?_
       replace hst : St _ _ _ [_,_] [_] _ _ := (hst.pick [0,1]).selA [0] rfl
       refine wp_ret ?_
       obtain rfl := sj h
       exact ret_st undef [] hpl hst rfl (.tmp z0 (.tmp z1 .nil)) rfl rfl rfl
      ·replace h := ite_f b72 h
       refine wp_skip ?_
       refine hK66 _ _ ?_
       try clear hK66 K66
       obtain ⟨t100,ht100,h⟩ := bind_some h
       obtain ⟨t101,ht101,h⟩ := bind_some h
       refine sr mixed [v1 6 (fun v0 => own rI 3 t101 v0)] hst (fun _ => .q 1 rfl <| .u [1] rfl rfl (op_nilB z0) <| .u [1] rfl rfl (op_fieldB fld105_4 z0) <| .q 5 rfl <| .o (op_len ud22 z0) <| .u [1] rfl rfl (op_sliceAB (j := (want_.length : Int)) ud103 tok3 z2 (.op z0) (sub_hi ht100) (by decide)) <| .m [1] [2] rfl rfl rfl (op_callFU [box (rScounts_search.cs t89) (n6 6)] call51 (slices_Clone_int_ok ht101) (.cons (.aslH (L := ((t89).best).L) z0 (.head _) ht100 rfl rfl) <| .nil) (fun _ => flat_tv) (fun _ => flatN1 (flat_own (by intro x T h; simp at h; (first | (subst h; exact flat_tv) | (rcases h with h | h | h <;> subst h <;> exact flat_tv)))))) <| .ud (f := fun v => tv v) 6 rfl [] rfl rfl (op_assign z0) <| .o (op_assign .k) <| .n) fun n25 a w hst => ?_
       replace hst : St _ _ _ [_,_,_] [_,_] _ _ := (hst.pick [6,7,8]).selA [0,2] rfl
       refine wp_ret ?_
       replace hst : St _ _ _ [_,_] [_] _ _ := ((hst.selA [1,0] rfl).shareO 1 rfl).pick [0,3]
       obtain rfl := sj h
       exact ret_st undef [] hpl hst rfl (.tmp z0 (.tmp z1 .nil)) rfl rfl rfl
    refine wp_block ?_
    refine wp_loopK _ (fun (s40 : Int × Int) a w => St M w0 102 [(59,tsl rSapi_Kind (x_).Kinds),(60,ti ((x_).Kinds.length : Int)),(61,ti s40.1),(12,ti s40.2),(9,tv (n6 6)),(1,tsl rI want_)] [glo,own rBool 4 p36 (n6 4),box ([tsl rScounts_Limit t17.1,tsl rI want_,tvs (n6 4)] ++ rScounts_numbers.cs zz5 ++ rScounts_numbers.cs zz5 ++ [ti (-1:Int)]) (n6 6)] a w) _ _ he41 (hst.pick [0,1,2,3,4,5]) ?_
    clear h
    intro s40 o a w K74 hI h ho hK74
    have hst := hI
    clear hI
    refine sr mixed [] hst (fun _ => .o (op_lss z2 z1) <| .n) fun n15 a w hst => ?_
    replace hst := hst.to [0,1,2,3,4,5,6] [_,_,_,_,_,_,_] [_,_,_] rfl rfl
    refine wp_seq_k (fun K76 hK76 => ?_)
    refine wt hst (fun b84 => ?_) (fun b84 => ?_)
    ·replace h := ite_t b84 h
     refine wp_skip ?_
     refine hK76 _ _ ?_
     try clear hK76 K76
     refine wp_seq_k (fun K77 hK77 => ?_)
     refine wp_block ?_
     obtain ⟨t64,ht64,h⟩ := bind_some h
     refine sr mixed [v1 3 (fun v0 => box (rSapi_Kind.cs zz1) v0),v1 3 (fun v0 => box (rSapi_Kind.cs t64) v0)] hst (fun _ => .q 3 rfl <| .o (op_index ud23 tok55 z2 z4 ht64) <| .o (op_load tok55 z0) <| .m [] [3] rfl rfl rfl (op_alloc (R := rSapi_Kind) (a := zz1) tok55 zok55) <| .o (op_assign z3) <| .e [] [3] [4] rfl rfl rfl rfl (op_storeB (R := rSapi_Kind) (a := t64) tok55 z1 z2 (leb rfl)) <| .n) fun n16 a w hst => ?_
     replace hst : St _ _ _ [_,_,_,_,_,_,_,_] [_,_,_] _ _ := ((((hst.pick [3,4,6,7,8,9,10,11]).selA [3,0,1,2] rfl).shareB 0 rfl).add 0 rfl (fun _ _ _ h => h.2)).pick [0,3,4,5,6,7,8,9]
     obtain ⟨t71,ht71,h⟩ := bind_some h
     refine sr mixed [] hst (fun _ => .q 6 rfl <| .u [2] rfl rfl (op_nilB z0) <| .u [2] rfl rfl (op_fieldB fld105_2 z0) <| .u [2] rfl rfl (op_loadBVf (u := (n6 4)) tokV101 z0 rfl) <| .q 5 rfl <| .u [1] rfl rfl (op_indexOi ud101 tok4 z1 z0 ht71) <| .u [1] rfl rfl (op_loadO tok4 z0 ht71) <| .q 0 rfl <| .g rfl rfl (.b 0 rfl) (fun _ => op_move z13) <| .g rfl rfl (.b 1 rfl) (fun hc => op_leq (.cond z0 hc) .k) <| .o (op_and z2 (fun hp => (.cond z0 (beqT hp)))) <| .n) fun n17 a w hst => ?_
     replace hst := hst.to [3,10,11,13,14,15,16,17,18] [_,_,_,_,_,_,_,_,_] [_,_,_] rfl rfl
     obtain ⟨p81,hp81,h⟩ := bind_some h
     have hJp81 : ∀ a w,St M w0 102 [(12,ti p81),(59,tsl rSapi_Kind (x_).Kinds),(60,ti ((x_).Kinds.length : Int)),(61,ti s40.1),(9,tv (n6 6)),(1,tsl rI want_)] [glo,own rBool 4 p36 (n6 4),box ([tsl rScounts_Limit t17.1,tsl rI want_,tvs (n6 4)] ++ rScounts_numbers.cs zz5 ++ rScounts_numbers.cs zz5 ++ [ti (-1:Int)]) (n6 6)] a w → K77 a w := by
      intro a w hst
      refine hK77 _ _ ?_
      try clear hK77 K77
      refine wr mixed [] hst (fun _ => .o (op_add z3 .k) <| .q 0 rfl <| .n) fun n19 a w hst => ?_
      replace hst := hst.to [1,2,3,4,5,6] [_,_,_,_,_,_] [_,_,_] rfl rfl
      exact hK74 _ _ _ (sj h).symm (hst.pick [2,3,0,1,4,5])
     replace h := hp81
     clear hp81
     refine wp_test 1 hst rfl (fun b83 => ?_) (fun b83 => ?_)
     ·replace h := ite_t b83 h
      refine wr mixed [] hst (fun _ => .q 6 rfl <| .o (op_field fld55_2 z3) <| .o (op_loadT (R := rI) (u := (t64).Hi) tok3 z0 rfl) <| .o (op_field fld55_1 z5) <| .o (op_loadT (R := rI) (u := (t64).Lo) tok3 z0 rfl) <| .o (op_sub z2 z0) <| .o (op_add z0 .k) <| .o (op_mul z6 z0) <| .o (op_assign z0) <| .n) fun n18 a w hst => ?_
      replace hst := hst.to [8,9,12,13,14,15,16] [_,_,_,_,_,_,_] [_,_,_] rfl rfl
      obtain rfl := sj h
      exact hJp81 _ _ (hst.pick [0,2,3,4,5,6])
     ·replace h := ite_f b83 h
      refine wp_skip ?_
      obtain rfl := sj h
      exact hJp81 _ _ (hst.pick [6,3,4,5,7,8])
    ·replace h := ite_f b84 h
     refine wp_exit ?_
     exact hJp62 _ _ _ (ho _ (sj h).symm) (hst.pick [4,5,6])
   refine wp_block ?_
   refine wp_loopK _ (fun (s14 : Int × List Bool) a w => St M w0 102 [(41,tsl rScounts_Limit t17.1),(42,ti (t17.1.length : Int)),(43,ti s14.1),(9,tv (n6 6)),(2,tptr (rSapi_Schema.cs x_)),(1,tsl rI want_)] [glo,own rBool 4 s14.2 (n6 4),box ([tsl rScounts_Limit t17.1,tsl rI want_,tvs (n6 4)] ++ rScounts_numbers.cs zz5 ++ rScounts_numbers.cs zz5 ++ [ti (-1:Int)]) (n6 6)] a w) _ _ he15 (hst.pick [0,1,2,4,5,6]) ?_
   clear h
   intro s14 o a w K85 hI h ho hK85
   have hst := hI
   clear hI
   refine sr mixed [] hst (fun _ => .o (op_lss z2 z1) <| .n) fun n8 a w hst => ?_
   replace hst := hst.to [0,1,2,3,4,5,6] [_,_,_,_,_,_,_] [_,_,_] rfl rfl
   refine wp_seq_k (fun K87 hK87 => ?_)
   refine wt hst (fun b95 => ?_) (fun b95 => ?_)
   ·replace h := ite_t b95 h
    refine wp_skip ?_
    refine hK87 _ _ ?_
    try clear hK87 K87
    refine wp_seq_k (fun K88 hK88 => ?_)
    refine wp_block ?_
    obtain ⟨t45,ht45,h⟩ := bind_some h
    refine sr mixed [v1 2 (fun v0 => box (rScounts_Limit.cs zz4) v0),v1 2 (fun v0 => box (rScounts_Limit.cs t45) v0)] hst (fun _ => .o (op_index ud31 tok43 z1 z3 ht45) <| .o (op_load tok43 z0) <| .m [] [3] rfl rfl rfl (op_alloc (R := rScounts_Limit) (a := zz4) tok43 zok43) <| .e [] [3] [4] rfl rfl rfl rfl (op_storeB (R := rScounts_Limit) (a := t45) tok43 z0 z1 (leb rfl)) <| .n) fun n9 a w hst => ?_
    replace hst : St _ _ _ [_,_,_,_,_,_,_] [_,_,_] _ _ := ((((hst.pick [2,4,5,6,7,8,9]).selA [3,0,1,2] rfl).shareB 0 rfl).add 0 rfl (fun _ _ _ h => h.2)).pick [0,3,4,5,6,7,8]
    refine sr mixed [] hst (fun _ => .o (op_field fld43_1 z0) <| .o (op_loadT (R := rI) (u := (t45).B) tok3 z0 rfl) <| .o (op_geq z0 .k) <| .n) fun n10 a w hst => ?_
    replace hst := hst.to [2,3,4,5,6,7,8,9] [_,_,_,_,_,_,_,_] [_,_,_] rfl rfl
    obtain ⟨p92,hp92,h⟩ := bind_some h
    have hJp92 : ∀ a w,St M w0 102 [(41,tsl rScounts_Limit t17.1),(42,ti (t17.1.length : Int)),(43,ti s14.1),(9,tv (n6 6)),(2,tptr (rSapi_Schema.cs x_)),(1,tsl rI want_)] [glo,box ([tsl rScounts_Limit t17.1,tsl rI want_,tvs (n6 4)] ++ rScounts_numbers.cs zz5 ++ rScounts_numbers.cs zz5 ++ [ti (-1:Int)]) (n6 6),own rBool 4 p92 (n6 4)] a w → K88 a w := by
     intro a w hst
     refine hK88 _ _ ?_
     try clear hK88 K88
     refine wr mixed [] hst (fun _ => .o (op_add z2 .k) <| .q 0 rfl <| .n) fun n12 a w hst => ?_
     replace hst := hst.to [1,2,3,4,5,6] [_,_,_,_,_,_] [_,_,_] rfl rfl
     exact hK85 _ _ _ (sj h).symm ((hst.pick [1,2,0,3,4,5]).selA [0,2,1] rfl)
    replace h := hp92
    clear hp92
    refine wt hst (fun b94 => ?_) (fun b94 => ?_)
    ·replace h := ite_t b94 h
     obtain ⟨t56s,ht56s,h⟩ := bind_some h
     refine wr mixed [v0 (own rBool 4 t56s (n6 4))] hst (fun _ => .q 5 rfl <| .u [2] rfl rfl (op_nilB z0) <| .u [2] rfl rfl (op_fieldB fld105_2 z0) <| .u [2] rfl rfl (op_loadBVf (u := (n6 4)) tokV101 z0 rfl) <| .o (op_field fld43_1 z5) <| .o (op_loadT (R := rI) (u := (t45).B) tok3 z0 rfl) <| .u [1] rfl rfl (op_indexOs ud101 tok4 z2 z0 ht56s) <| .e [] [1] [3] rfl rfl rfl rfl (op_storeO tok4 z0 .k ht56s) <| .n) fun n11 a w hst => ?_
     replace hst := hst.to [3,9,10,11,12,13,14] [_,_,_,_,_,_,_] [_,_,_] rfl rfl
     obtain rfl := sj h
     exact hJp92 _ _ (hst.pick [1,2,3,4,5,6])
    ·replace h := ite_f b94 h
     refine wp_skip ?_
     obtain rfl := sj h
     exact hJp92 _ _ ((hst.pick [2,3,4,5,6,7]).selA [0,2,1] rfl)
   ·replace h := ite_f b95 h
    refine wp_exit ?_
    exact hJp36 _ _ _ (ho _ (sj h).symm) (hst.pick [4,5,6])

/- diorama/counts.Holds$1 -/
noncomputable def fcounts_Holdsq1 (n_ : Int) : Option (Bool) := (fcounts_isCount n_).bind fun t4 => (some (!t4))
set_option maxRecDepth 100000 in
set_option maxHeartbeats 4000000 in
theorem counts_Holdsq1_ok {n_ : Int} {r : Bool} (h : fcounts_Holdsq1 n_ = some r) : FnOk Tryz.prog 44 [ti n_] [] (fun _ => []) (fun _ => tb r) := by
 unfold fcounts_Holdsq1 at h
 refine FnOk.enter Tryz.func44 rfl Tryz.ntmps44 (leb rfl) (fun M0 M w0 a hpl hst => ?_)
 replace hst : St M w0 6 [(0,ti n_)] [] a w0 := hst
 refine sr mixed [] hst (fun _ => .o (op_assign .k) <| .n) fun n0 a w hst => ?_
 replace hst := hst.to [1] [_] [] rfl rfl
 obtain ⟨t4,ht4,h⟩ := bind_some h
 refine sr mixed [] hst (fun _ => .q 0 rfl <| .o (op_callF call45 (counts_isCount_ok ht4) (.cons (.of z0) <| .nil)) <| .o (op_not z0) <| .o (op_assign z0) <| .n) fun n1 a w hst => ?_
 replace hst := hst.to [3] [_] [] rfl rfl
 refine wp_ret ?_
 obtain rfl := sj h
 exact ret_st undef [] hpl hst rfl (.tmp z0 .nil) rfl rfl rfl

/- diorama/counts.Holds -/
noncomputable def fcounts_Holds (l_ : Scounts_Limit) (counts_ : (List Int)) : Option (Bool) := (fcounts_Limit_valid l_ (counts_.length : Int)).bind fun t8 => (opt (t8 == true) (fslices_ContainsFunc_int counts_ (fun x0 => fcounts_Holdsq1 x0)) default).bind fun t11 => (opt ((t8 && (!t11)) == true) (fcounts_Limit_holds l_ counts_) default).bind fun t17 => (some ((t8 && (!t11)) && t17))
set_option maxRecDepth 100000 in
set_option maxHeartbeats 4000000 in
theorem counts_Holds_ok {l_ : Scounts_Limit} {counts_ : (List Int)} {r : Bool} (h : fcounts_Holds l_ counts_ = some r) : FnOk Tryz.prog 21 [rScounts_Limit.ty l_,tsl rI counts_] [] (fun _ => []) (fun _ => tb r) := by
 unfold fcounts_Holds at h
 refine FnOk.enter Tryz.func21 rfl Tryz.ntmps21 (leb rfl) (fun M0 M w0 a hpl hst => ?_)
 replace hst : St M w0 19 [(0,rScounts_Limit.ty l_),(1,tsl rI counts_)] [] a w0 := hst
 refine sr mixed [] hst (fun _ => .o (op_boxR (R := rScounts_Limit) (u := l_) z0) <| .o (op_assign .k) <| .n) fun n0 a w hst => ?_
 replace hst := hst.to [0,3] [_,_] [] rfl rfl
 obtain ⟨t8,ht8,h⟩ := bind_some h
 obtain ⟨t11,ht11,h⟩ := bind_some h
 obtain ⟨t17,ht17,h⟩ := bind_some h
 refine sr mixed [] hst (fun _ => .o (op_load tok43 z0) <| .q 2 rfl <| .o (op_len ud22 z0) <| .o (op_callF call42 (counts_Limit_valid_ok ht8) (.cons (.of z2) <| .cons (.of z0) <| .nil)) <| .q 0 rfl <| .g rfl rfl (.b 0 rfl) (fun _ => op_move z6) <| .g rfl rfl (.b 1 rfl) (fun hc => op_callF call43 (slices_ContainsFunc_int_ok (opt_t ht11 hc)) (.cons (.of (.cond z0 hc)) <| .cons (.of (Fct.weak .fnE (tfn_of call44 (fun _ _ hq => counts_Holdsq1_ok hq)))) <| .nil)) <| .g rfl rfl (.b 2 rfl) (fun hc => op_not (.cond z0 hc)) <| .o (op_and z3 (fun hp => (.cond z0 (beqT hp)))) <| .q 0 rfl <| .g rfl rfl (.b 0 rfl) (fun _ => op_load tok43 z10) <| .g rfl rfl (.b 1 rfl) (fun _ => op_move z12) <| .g rfl rfl (.b 2 rfl) (fun hc => op_callF call46 (counts_Limit_holds_ok (opt_t ht17 hc)) (.cons (.of (.cond z1 hc)) <| .cons (.of (.cond z0 hc)) <| .nil)) <| .o (op_and z3 (fun hp => (.cond z0 (beqT hp)))) <| .o (op_assign z0) <| .n) fun n1 a w hst => ?_
 replace hst := hst.to [14] [_] [] rfl rfl
 refine wp_ret ?_
 obtain rfl := sj h
 exact ret_st undef [] hpl hst rfl (.tmp z0 .nil) rfl rfl rfl

/- diorama/dioramalaw13.lives -/
noncomputable def flaw13_lives  : Option (Bool) := (flaw13_example (3:Int)).bind fun t13 => (fcounts_Plan t13 [(2:Int),(9:Int)]).bind fun t15 => (flaw13_example (3:Int)).bind fun t19 => (fcounts_Plan t19 [(1:Int),(9:Int)]).bind fun t21 => (flaw13_example (9:Int)).bind fun t25 => (fcounts_Plan t25 [(2:Int),(9:Int)]).bind fun t27 => (flaw13_example (9:Int)).bind fun t31 => (fcounts_Limits t31).bind fun t32 => (if ((((((t15.2 != (0:Int)) || (t21.2 != (0:Int))) || (t27.2 != (14:Int))) || (t32.2.2 != (0:Int))) || ((t32.1.length : Int) != (6:Int))) || ((t32.2.1.length : Int) != (6:Int))) = true then (some false) else (fcounts_Clash (2:Int) t32.1).bind fun t62 => (opt ((t62.2 != (0:Int)) == false) (fref01_SameInts t62.1 [(1:Int),(2:Int),(5:Int)]) default).bind fun t70 => (opt (((t62.2 != (0:Int)) || (!t70)) == false) (idx t32.2.1 (1:Int)) default).bind fun t75 => (opt ((((t62.2 != (0:Int)) || (!t70)) || (t75 != ([97,32,109,111,115,116] : Str))) == false) (idx t32.2.1 (2:Int)) default).bind fun t81 => (opt (((((t62.2 != (0:Int)) || (!t70)) || (t75 != ([97,32,109,111,115,116] : Str))) || (t81 != ([98,32,108,101,97,115,116] : Str))) == false) (idx t32.2.1 (5:Int)) default).bind fun t87 => (if (((((t62.2 != (0:Int)) || (!t70)) || (t75 != ([97,32,109,111,115,116] : Str))) || (t81 != ([98,32,108,101,97,115,116] : Str))) || (t87 != ([98,46,111,102,32,109,111,115,116] : Str))) = true then (some false) else (fref01_SameInts t15.1 [(2:Int),(8:Int)]).bind fun t93 => (opt (t93 == true) (fref01_SameInts t21.1 [(2:Int),(8:Int)]) default).bind fun t97 => (opt ((t93 && t97) == true) (idx t32.1 (5:Int)) default).bind fun t101 => (opt ((t93 && t97) == true) (fcounts_Holds t101 [(2:Int),(9:Int)]) default).bind fun t104 => (opt (((t93 && t97) && (!t104)) == true) (idx t32.1 (5:Int)) default).bind fun t109 => (opt (((t93 && t97) && (!t104)) == true) (fcounts_Holds t109 [(2:Int),(8:Int)]) default).bind fun t112 => (some (((t93 && t97) && (!t104)) && t112))))
set_option maxRecDepth 100000 in
set_option maxHeartbeats 4000000 in
theorem law13_lives_ok {r : Bool} (h : flaw13_lives  = some r) : FnOk Tryz.prog 16 [] [glo] (fun _ => []) (fun _ => tb r) := by
 unfold flaw13_lives at h
 refine FnOk.enter Tryz.func16 rfl Tryz.ntmps16 (leb rfl) (fun M0 M w0 a hpl hst => ?_)
 replace hst : St M w0 114 [] [glo] a w0 := hst
 refine sr mixed [] hst (fun _ => .o (op_assign .k) <| .n) fun n0 a w hst => ?_
 replace hst := hst.to [] [] [_] rfl rfl
 obtain ⟨t13,ht13,h⟩ := bind_some h
 obtain ⟨t15,ht15,h⟩ := bind_some h
 refine sr mixed [] hst (fun _ => .o (op_callF call26 (law13_example_ok ht13) (.cons (.of .k) <| .nil)) <| .o (op_buildSl (R := rI) (us := [(2:Int),(9:Int)]) ud22 tok3 (.cons .k <| .cons .k <| .nil _) rfl (leb rfl)) <| .u [0] rfl rfl ((op_callF call23 (counts_Plan_ok ht15) (.cons (.of z1) <| .cons (.of z0) <| .nil)).glo) <| .q 0 rfl <| .o (op_extract z0 rfl) <| .o (op_extract z1 rfl) <| .o (op_assign z1) <| .o (op_assign z1) <| .n) fun n1 a w hst => ?_
 replace hst := hst.to [6,7] [_,_] [_] rfl rfl
 obtain ⟨t19,ht19,h⟩ := bind_some h
 obtain ⟨t21,ht21,h⟩ := bind_some h
 refine sr mixed [] hst (fun _ => .o (op_callF call26 (law13_example_ok ht19) (.cons (.of .k) <| .nil)) <| .o (op_buildSl (R := rI) (us := [(1:Int),(9:Int)]) ud22 tok3 (.cons .k <| .cons .k <| .nil _) rfl (leb rfl)) <| .u [0] rfl rfl ((op_callF call23 (counts_Plan_ok ht21) (.cons (.of z1) <| .cons (.of z0) <| .nil)).glo) <| .q 0 rfl <| .o (op_extract z0 rfl) <| .o (op_extract z1 rfl) <| .o (op_assign z1) <| .o (op_assign z1) <| .n) fun n2 a w hst => ?_
 replace hst := hst.to [6,7,8,9] [_,_,_,_] [_] rfl rfl
 obtain ⟨t25,ht25,h⟩ := bind_some h
 obtain ⟨t27,ht27,h⟩ := bind_some h
 refine sr mixed [] hst (fun _ => .o (op_callF call26 (law13_example_ok ht25) (.cons (.of .k) <| .nil)) <| .o (op_buildSl (R := rI) (us := [(2:Int),(9:Int)]) ud22 tok3 (.cons .k <| .cons .k <| .nil _) rfl (leb rfl)) <| .u [0] rfl rfl ((op_callF call23 (counts_Plan_ok ht27) (.cons (.of z1) <| .cons (.of z0) <| .nil)).glo) <| .q 0 rfl <| .o (op_extract z0 rfl) <| .o (op_extract z1 rfl) <| .o (op_assign z1) <| .o (op_assign z1) <| .n) fun n3 a w hst => ?_
 replace hst := hst.to [7,8,9,10,11] [_,_,_,_,_] [_] rfl rfl
 obtain ⟨t31,ht31,h⟩ := bind_some h
 obtain ⟨t32,ht32,h⟩ := bind_some h
 refine sr mixed [] hst (fun _ => .o (op_callF call26 (law13_example_ok ht31) (.cons (.of .k) <| .nil)) <| .u [0] rfl rfl ((op_callF call12 (counts_Limits_ok ht32) (.cons (.of z0) <| .nil)).glo) <| .q 0 rfl <| .o (op_extract z0 rfl) <| .o (op_extract z1 rfl) <| .o (op_extract z2 rfl) <| .o (op_assign z2) <| .o (op_assign z2) <| .o (op_assign z2) <| .n) fun n4 a w hst => ?_
 replace hst := hst.to [6,7,8,9,10,11,12,13] [_,_,_,_,_,_,_,_] [_] rfl rfl
 refine wp_seq_k (fun K6 hK6 => ?_)
 refine sr mixed [] hst (fun _ => .q 7 rfl <| .o (op_neq z0 .k) <| .q 0 rfl <| .g rfl rfl (.b 0 rfl) (fun _ => op_move z8) <| .g rfl rfl (.b 1 rfl) (fun hc => op_neq (.cond z0 hc) .k) <| .o (op_or z2 (fun hp => (.cond z0 (beqF hp)))) <| .q 0 rfl <| .g rfl rfl (.b 0 rfl) (fun _ => op_move z10) <| .g rfl rfl (.b 1 rfl) (fun hc => op_neq (.cond z0 hc) .k) <| .o (op_or z2 (fun hp => (.cond z0 (beqF hp)))) <| .q 0 rfl <| .g rfl rfl (.b 0 rfl) (fun _ => op_move z13) <| .g rfl rfl (.b 1 rfl) (fun hc => op_neq (.cond z0 hc) .k) <| .o (op_or z2 (fun hp => (.cond z0 (beqF hp)))) <| .q 0 rfl <| .g rfl rfl (.b 0 rfl) (fun _ => op_move z15) <| .g rfl rfl (.b 1 rfl) (fun hc => op_len ud31 (.cond z0 hc)) <| .g rfl rfl (.b 2 rfl) (fun hc => op_neq (.cond z0 hc) .k) <| .o (op_or z3 (fun hp => (.cond z0 (beqF hp)))) <| .q 0 rfl <| .g rfl rfl (.b 0 rfl) (fun _ => op_move z21) <| .g rfl rfl (.b 1 rfl) (fun hc => op_len ud32 (.cond z0 hc)) <| .g rfl rfl (.b 2 rfl) (fun hc => op_neq (.cond z0 hc) .k) <| .o (op_or z3 (fun hp => (.cond z0 (beqF hp)))) <| .n) fun n5 a w hst => ?_
 replace hst := hst.to [23,24,25,28,30] [_,_,_,_,_] [_] rfl rfl
 refine wt hst (fun b15 => ?_) (fun b15 => ?_)
 ·replace h := ite_t b15 h
  refine sr mixed [] hst (fun _ => .o (op_assign .k) <| .n) fun n6 a w hst => ?_
  replace hst := hst.to [0] [_] [_] rfl rfl
  refine wp_ret ?_
  obtain rfl := sj h
  exact ret_st undef [] hpl hst rfl (.tmp z0 .nil) rfl rfl rfl
 ·replace h := ite_f b15 h
  refine wp_skip ?_
  refine hK6 _ _ ?_
  try clear hK6 K6
  obtain ⟨t62,ht62,h⟩ := bind_some h
  refine sr mixed [] hst (fun _ => .q 1 rfl <| .u [0] rfl rfl ((op_callF call27 (counts_Clash_ok ht62) (.cons (.of .k) <| .cons (.of z0) <| .nil)).glo) <| .q 0 rfl <| .o (op_extract z0 rfl) <| .o (op_extract z1 rfl) <| .o (op_assign z1) <| .o (op_assign z1) <| .n) fun n7 a w hst => ?_
  replace hst := hst.to [5,6,8,9,10,11] [_,_,_,_,_,_] [_] rfl rfl
  refine wp_seq_k (fun K10 hK10 => ?_)
  obtain ⟨t70,ht70,h⟩ := bind_some h
  obtain ⟨t75,ht75,h⟩ := bind_some h
  obtain ⟨t81,ht81,h⟩ := bind_some h
  obtain ⟨t87,ht87,h⟩ := bind_some h
  refine sr mixed [] hst (fun _ => .q 1 rfl <| .o (op_neq z0 .k) <| .q 0 rfl <| .g rfl rfl (.b 0 rfl) (fun _ => op_move z3) <| .g rfl rfl (.b 1 rfl) (fun _ => op_buildSl (R := rI) (us := [(1:Int),(2:Int),(5:Int)]) ud22 tok3 (.cons .k <| .cons .k <| .cons .k <| .nil _) rfl (leb rfl)) <| .g rfl rfl (.b 2 rfl) (fun hc => op_callF call25 (ref01_SameInts_ok (opt_t ht70 hc)) (.cons (.of (.cond z1 hc)) <| .cons (.of (.cond z0 hc)) <| .nil)) <| .g rfl rfl (.b 3 rfl) (fun hc => op_not (.cond z0 hc)) <| .o (op_or z4 (fun hp => (.cond z0 (beqF hp)))) <| .q 0 rfl <| .g rfl rfl (.b 0 rfl) (fun _ => op_move z12) <| .g rfl rfl (.b 1 rfl) (fun hc => op_index ud32 tok9 (.cond z0 hc) .k (opt_t ht75 hc)) <| .g rfl rfl (.b 2 rfl) (fun hc => op_load tok9 (.cond z0 hc)) <| .g rfl rfl (.b 3 rfl) (fun hc => op_neqS (.cond z0 hc) .k) <| .o (op_or z4 (fun hp => (.cond z0 (beqF hp)))) <| .q 0 rfl <| .g rfl rfl (.b 0 rfl) (fun _ => op_move z18) <| .g rfl rfl (.b 1 rfl) (fun hc => op_index ud32 tok9 (.cond z0 hc) .k (opt_t ht81 hc)) <| .g rfl rfl (.b 2 rfl) (fun hc => op_load tok9 (.cond z0 hc)) <| .g rfl rfl (.b 3 rfl) (fun hc => op_neqS (.cond z0 hc) .k) <| .o (op_or z4 (fun hp => (.cond z0 (beqF hp)))) <| .q 0 rfl <| .g rfl rfl (.b 0 rfl) (fun _ => op_move z24) <| .g rfl rfl (.b 1 rfl) (fun hc => op_index ud32 tok9 (.cond z0 hc) .k (opt_t ht87 hc)) <| .g rfl rfl (.b 2 rfl) (fun hc => op_load tok9 (.cond z0 hc)) <| .g rfl rfl (.b 3 rfl) (fun hc => op_neqS (.cond z0 hc) .k) <| .o (op_or z4 (fun hp => (.cond z0 (beqF hp)))) <| .n) fun n8 a w hst => ?_
  replace hst := hst.to [25,28,30,31] [_,_,_,_] [_] rfl rfl
  refine wt hst (fun b14 => ?_) (fun b14 => ?_)
  ·replace h := ite_t b14 h
   refine sr mixed [] hst (fun _ => .o (op_assign .k) <| .n) fun n9 a w hst => ?_
   replace hst := hst.to [0] [_] [_] rfl rfl
   refine wp_ret ?_
   obtain rfl := sj h
   exact ret_st undef [] hpl hst rfl (.tmp z0 .nil) rfl rfl rfl
  ·replace h := ite_f b14 h
   refine wp_skip ?_
   refine hK10 _ _ ?_
   try clear hK10 K10
   obtain ⟨t93,ht93,h⟩ := bind_some h
   obtain ⟨t97,ht97,h⟩ := bind_some h
   obtain ⟨t101,ht101,h⟩ := bind_some h
   obtain ⟨t104,ht104,h⟩ := bind_some h
   obtain ⟨t109,ht109,h⟩ := bind_some h
   obtain ⟨t112,ht112,h⟩ := bind_some h
   refine sr mixed [] hst (fun _ => .q 3 rfl <| .o (op_buildSl (R := rI) (us := [(2:Int),(8:Int)]) ud22 tok3 (.cons .k <| .cons .k <| .nil _) rfl (leb rfl)) <| .o (op_callF call25 (ref01_SameInts_ok ht93) (.cons (.of z1) <| .cons (.of z0) <| .nil)) <| .q 0 rfl <| .g rfl rfl (.b 0 rfl) (fun _ => op_move z6) <| .g rfl rfl (.b 1 rfl) (fun _ => op_buildSl (R := rI) (us := [(2:Int),(8:Int)]) ud22 tok3 (.cons .k <| .cons .k <| .nil _) rfl (leb rfl)) <| .g rfl rfl (.b 2 rfl) (fun hc => op_callF call25 (ref01_SameInts_ok (opt_t ht97 hc)) (.cons (.of (.cond z1 hc)) <| .cons (.of (.cond z0 hc)) <| .nil)) <| .o (op_and z3 (fun hp => (.cond z0 (beqT hp)))) <| .q 0 rfl <| .g rfl rfl (.b 0 rfl) (fun _ => op_move z10) <| .g rfl rfl (.b 1 rfl) (fun hc => op_index ud31 tok43 (.cond z0 hc) .k (opt_t ht101 hc)) <| .g rfl rfl (.b 2 rfl) (fun hc => op_load tok43 (.cond z0 hc)) <| .g rfl rfl (.b 3 rfl) (fun _ => op_buildSl (R := rI) (us := [(2:Int),(9:Int)]) ud22 tok3 (.cons .k <| .cons .k <| .nil _) rfl (leb rfl)) <| .g rfl rfl (.b 4 rfl) (fun hc => op_callF call21 (counts_Holds_ok (opt_t ht104 hc)) (.cons (.of (.cond z1 hc)) <| .cons (.of (.cond z0 hc)) <| .nil)) <| .g rfl rfl (.b 5 rfl) (fun hc => op_not (.cond z0 hc)) <| .o (op_and z6 (fun hp => (.cond z0 (beqT hp)))) <| .q 0 rfl <| .g rfl rfl (.b 0 rfl) (fun _ => op_move z18) <| .g rfl rfl (.b 1 rfl) (fun hc => op_index ud31 tok43 (.cond z0 hc) .k (opt_t ht109 hc)) <| .g rfl rfl (.b 2 rfl) (fun hc => op_load tok43 (.cond z0 hc)) <| .g rfl rfl (.b 3 rfl) (fun _ => op_buildSl (R := rI) (us := [(2:Int),(8:Int)]) ud22 tok3 (.cons .k <| .cons .k <| .nil _) rfl (leb rfl)) <| .g rfl rfl (.b 4 rfl) (fun hc => op_callF call21 (counts_Holds_ok (opt_t ht112 hc)) (.cons (.of (.cond z1 hc)) <| .cons (.of (.cond z0 hc)) <| .nil)) <| .o (op_and z5 (fun hp => (.cond z0 (beqT hp)))) <| .o (op_assign z0) <| .n) fun n10 a w hst => ?_
   replace hst := hst.to [23] [_] [_] rfl rfl
   refine wp_ret ?_
   obtain rfl := sj h
   exact ret_st undef [] hpl hst rfl (.tmp z0 .nil) rfl rfl rfl

end Go.Proofs.YtcdccjagknlmpaaGreatDoor
