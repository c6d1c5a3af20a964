/- Go functions as Lean functions, and the proofs that they compute them, written by a program. No condition. -/
import Derived.Test.YtcdccjagknlmpaaGreatDoorGenE
namespace Go.Proofs.YtcdccjagknlmpaaGreatDoor
open Go.Sim

/- diorama/counts.smallest -/
noncomputable def fcounts_smallestS (self : (List Scounts_Limit) → Int → Int → Int → Option (Int)) (l_ : (List Scounts_Limit)) (set_ : Int) (from_ : Int) (many_ : Int) : Option (Int) := (nn (IntKind.i64.wrap ((64:Int) - (l_.length : Int)))).bind fun _ => (nn from_).bind fun _ => (nn from_).bind fun _ => (fcounts_some l_ (ior .u64 set_ (ishl .u64 (ishr .u64 (ishr .u64 (18446744073709551615:Int) (IntKind.i64.wrap ((64:Int) - (l_.length : Int)))) from_) from_))).bind fun t24 => (fcounts_kept t24).bind fun t25 => (if t25 = true then (some (0:Int)) else (if (many_ == (0:Int)) = true then (fcounts_some l_ set_).bind fun t30 => (fcounts_kept t30).bind fun t31 => (if t31 = true then (some (0:Int)) else (some set_)) else (tailrec (fun (s15 : Int) => ((if (decide ((IntKind.i64.wrap (s15 + many_)) ≤ (l_.length : Int))) = true then (nn s15).bind fun _ => (self l_ (ior .u64 set_ (ishl .u64 (1:Int) s15)) (IntKind.i64.wrap (s15 + (1:Int))) (IntKind.i64.wrap (many_ - (1:Int)))).bind fun t51 => (if (t51 != (0:Int)) = true then (some (.inr (.inr t51))) else (some (.inl (IntKind.i64.wrap (s15 + (1:Int)))))) else (some (.inr (.inl ())))) : Option ((Int) ⊕ ((Unit) ⊕ (Int))))) from_).bind fun (e16 : (Unit) ⊕ (Int)) => (match e16 with | .inl _ => (some (0:Int)) | .inr p34 => (some p34))))
set_option maxRecDepth 100000 in
set_option maxHeartbeats 4000000 in
theorem counts_smallest_okS {self : (List Scounts_Limit) → Int → Int → Int → Option (Int)} (hself : ∀ (l_ : (List Scounts_Limit)) (set_ : Int) (from_ : Int) (many_ : Int) (r : Int),self l_ set_ from_ many_ = some r → FnOk Tryz.prog 58 [tsl rScounts_Limit l_,tv (.int .u64 set_),ti from_,ti many_] [glo] (fun _ => []) (fun _ => tv (.int .u64 r))) {l_ : (List Scounts_Limit)} {set_ : Int} {from_ : Int} {many_ : Int} {r : Int} (h : fcounts_smallestS self l_ set_ from_ many_ = some r) : FnOk Tryz.prog 58 [tsl rScounts_Limit l_,tv (.int .u64 set_),ti from_,ti many_] [glo] (fun _ => []) (fun _ => tv (.int .u64 r)) := by
 unfold fcounts_smallestS at h
 refine FnOk.enter Tryz.func58 rfl Tryz.ntmps58 (leb rfl) (fun M0 M w0 a hpl hst => ?_)
 replace hst : St M w0 55 [(0,tsl rScounts_Limit l_),(1,tv (.int .u64 set_)),(2,ti from_),(3,ti many_)] [glo] a w0 := hst
 refine sr mixed [] hst (fun _ => .o (op_assign .k) <| .n) fun n0 a w hst => ?_
 replace hst := hst.to [1,2,3,4] [_,_,_,_] [_] rfl rfl
 refine wp_seq_k (fun K2 hK2 => ?_)
 obtain ⟨u15,hu15,h⟩ := bind_some h
 obtain ⟨u17,hu17,h⟩ := bind_some h
 obtain ⟨u19,hu19,h⟩ := bind_some h
 refine wr mixed [] hst (fun _ => .q 0 rfl <| .o (op_len ud31 z0) <| .o (op_sub .k z0) <| .o (op_ishr .k z0 (nn_le hu15)) <| .q 6 rfl <| .o (op_ishr z1 z0 (nn_le hu17)) <| .q 8 rfl <| .o (op_ishl z1 z0 (nn_le hu19)) <| .o (op_assign z0) <| .n) fun n1 a w hst => ?_
 replace hst := hst.to [8,9,10,11,12] [_,_,_,_,_] [_] rfl rfl
 refine hK2 _ _ ?_
 try clear hK2 K2
 refine wp_seq_k (fun K3 hK3 => ?_)
 obtain ⟨t24,ht24,h⟩ := bind_some h
 obtain ⟨t25,ht25,h⟩ := bind_some h
 refine sr mixed [] hst (fun _ => .q 1 rfl <| .q 3 rfl <| .q 2 rfl <| .o (op_ior z1 z0) <| .u [0] rfl rfl ((op_callF call91 (counts_some_ok ht24) (.cons (.of z3) <| .cons (.of z0) <| .nil)).glo) <| .o (op_callF call57 (counts_kept_ok ht25) (.cons (.of z0) <| .nil)) <| .n) fun n2 a w hst => ?_
 replace hst := hst.to [5,7,8,9,10] [_,_,_,_,_] [_] rfl rfl
 refine wt hst (fun b46 => ?_) (fun b46 => ?_)
 ·replace h := ite_t b46 h
  refine sr mixed [] hst (fun _ => .o (op_assign .k) <| .n) fun n3 a w hst => ?_
  replace hst := hst.to [0] [_] [_] rfl rfl
  refine wp_ret ?_
  obtain rfl := sj h
  exact ret_st undef [] hpl hst rfl (.tmp z0 .nil) rfl rfl rfl
 ·replace h := ite_f b46 h
  refine wp_skip ?_
  refine hK3 _ _ ?_
  try clear hK3 K3
  refine wp_seq_k (fun K6 hK6 => ?_)
  refine sr mixed [] hst (fun _ => .q 4 rfl <| .o (op_eql z0 .k) <| .n) fun n4 a w hst => ?_
  replace hst := hst.to [1,3,4,5,6] [_,_,_,_,_] [_] rfl rfl
  refine wt hst (fun b45 => ?_) (fun b45 => ?_)
  ·replace h := ite_t b45 h
   refine wp_seq_k (fun K8 hK8 => ?_)
   obtain ⟨t30,ht30,h⟩ := bind_some h
   obtain ⟨t31,ht31,h⟩ := bind_some h
   refine sr mixed [] hst (fun _ => .q 1 rfl <| .q 3 rfl <| .u [0] rfl rfl ((op_callF call91 (counts_some_ok ht30) (.cons (.of z1) <| .cons (.of z0) <| .nil)).glo) <| .o (op_callF call57 (counts_kept_ok ht31) (.cons (.of z0) <| .nil)) <| .n) fun n5 a w hst => ?_
   replace hst := hst.to [3,6] [_,_] [_] rfl rfl
   refine wt hst (fun b12 => ?_) (fun b12 => ?_)
   ·replace h := ite_t b12 h
    refine sr mixed [] hst (fun _ => .o (op_assign .k) <| .n) fun n6 a w hst => ?_
    replace hst := hst.to [0] [_] [_] rfl rfl
    refine wp_ret ?_
    obtain rfl := sj h
    exact ret_st undef [] hpl hst rfl (.tmp z0 .nil) rfl rfl rfl
   ·replace h := ite_f b12 h
    refine wp_skip ?_
    refine hK8 _ _ ?_
    try clear hK8 K8
    refine sr mixed [] hst (fun _ => .q 1 rfl <| .o (op_assign z0) <| .n) fun n7 a w hst => ?_
    replace hst := hst.to [1] [_] [_] rfl rfl
    refine wp_ret ?_
    obtain rfl := sj h
    exact ret_st undef [] hpl hst rfl (.tmp z0 .nil) rfl rfl rfl
  ·replace h := ite_f b45 h
   refine wp_skip ?_
   refine hK6 _ _ ?_
   try clear hK6 K6
   refine wp_seq_k (fun K13 hK13 => ?_)
   refine sr mixed [] hst (fun _ => .q 3 rfl <| .o (op_assign z0) <| .n) fun n8 a w hst => ?_
   replace hst := hst.to [1,3,4,6] [_,_,_,_] [_] rfl rfl
   obtain ⟨e16,he16,h⟩ := bind_some h
   have hJp33 : ∀ (p33 : Unit) a w,(.inl p33) = e16 → St M w0 55 [] [glo] a w → K13 a w := by
    intro p33 a w he hst
    subst he
    simp only at h
    refine hK13 _ _ ?_
    try clear hK13 K13
    refine sr mixed [] hst (fun _ => .o (op_assign .k) <| .n) fun n14 a w hst => ?_
    replace hst := hst.to [0] [_] [_] rfl rfl
    refine wp_ret ?_
    obtain rfl := sj h
    exact ret_st undef [] hpl hst rfl (.tmp z0 .nil) rfl rfl rfl
   have hJp34 : ∀ (p34 : Int) a w,(.inr p34) = e16 → St M w0 55 [(8,tv (.int .u64 p34))] [glo] a w → Ret Tryz.prog Tryz.f58 M0 [glo] w0 (fun _ => []) (fun _ => tv (.int .u64 r)) .ret a w := by
    intro p34 a w he hst
    subst he
    simp only at h
    obtain rfl := sj h
    exact ret_st undef [] hpl hst rfl (.tmp z0 .nil) rfl rfl rfl
   refine wp_block ?_
   refine wp_loopK _ (fun (s15 : Int) a w => St M w0 55 [(10,ti s15),(0,tsl rScounts_Limit l_),(1,tv (.int .u64 set_)),(3,ti many_)] [glo] a w) _ _ he16 (hst.pick [0,1,2,3]) ?_
   clear h
   intro s15 o a w K36 hI h ho hK36
   have hst := hI
   clear hI
   refine wp_seq_k (fun K37 hK37 => ?_)
   refine sr mixed [] hst (fun _ => .q 0 rfl <| .q 4 rfl <| .o (op_add z1 z0) <| .q 4 rfl <| .o (op_len ud31 z0) <| .o (op_leq z2 z0) <| .n) fun n9 a w hst => ?_
   replace hst := hst.to [5,6,7,8,9] [_,_,_,_,_] [_] rfl rfl
   refine wt hst (fun b44 => ?_) (fun b44 => ?_)
   ·replace h := ite_t b44 h
    refine wp_skip ?_
    refine hK37 _ _ ?_
    try clear hK37 K37
    refine wp_seq_k (fun K39 hK39 => ?_)
    refine wp_block ?_
    refine wp_seq_k (fun K40 hK40 => ?_)
    obtain ⟨u45,hu45,h⟩ := bind_some h
    obtain ⟨t51,ht51,h⟩ := bind_some h
    refine wr mixed [] hst (fun _ => .q 2 rfl <| .q 4 rfl <| .q 3 rfl <| .o (op_ishl .k z0 (nn_le hu45)) <| .o (op_ior z2 z0) <| .q 6 rfl <| .o (op_add z0 .k) <| .q 11 rfl <| .o (op_sub z0 .k) <| .u [0] rfl rfl ((op_callF call58 (hself _ _ _ _ _ ht51) (.cons (.of z8) <| .cons (.of z4) <| .cons (.of z2) <| .cons (.of z0) <| .nil)).glo) <| .o (op_assign z0) <| .n) fun n11 a w hst => ?_
    replace hst := hst.to [10,12,13,14,15] [_,_,_,_,_] [_] rfl rfl
    refine hK40 _ _ ?_
    try clear hK40 K40
    refine sr mixed [] hst (fun _ => .q 0 rfl <| .o (op_neq z0 .k) <| .n) fun n12 a w hst => ?_
    replace hst := hst.to [1,2,3,4,5,6] [_,_,_,_,_,_] [_] rfl rfl
    refine wt hst (fun b43 => ?_) (fun b43 => ?_)
    ·replace h := ite_t b43 h
     refine sr mixed [] hst (fun _ => .q 1 rfl <| .o (op_assign z0) <| .n) fun n13 a w hst => ?_
     replace hst := hst.to [1] [_] [_] rfl rfl
     refine wp_ret ?_
     exact hJp34 _ _ _ (ho _ (sj h).symm) (hst.pick [0])
    ·replace h := ite_f b43 h
     refine wp_skip ?_
     refine hK39 _ _ ?_
     try clear hK39 K39
     refine wr mixed [] hst (fun _ => .q 2 rfl <| .o (op_add z0 .k) <| .o (op_assign z0) <| .n) fun n10 a w hst => ?_
     replace hst := hst.to [2,5,6,7] [_,_,_,_] [_] rfl rfl
     exact hK36 _ _ _ (sj h).symm (hst.pick [0,1,2,3])
   ·replace h := ite_f b44 h
    refine wp_exit ?_
    exact hJp33 _ _ _ (ho _ (sj h).symm) (hst.pick [])
noncomputable def gcounts_smallestN : Nat → (List Scounts_Limit) → Int → Int → Int → Option (Int)
 | 0 => fun _ _ _ _ => none
 | n + 1 => fcounts_smallestS (gcounts_smallestN n)
theorem gcounts_smallestN_ok : ∀ (n : Nat) (l_ : (List Scounts_Limit)) (set_ : Int) (from_ : Int) (many_ : Int) (r : Int),gcounts_smallestN n l_ set_ from_ many_ = some r → FnOk Tryz.prog 58 [tsl rScounts_Limit l_,tv (.int .u64 set_),ti from_,ti many_] [glo] (fun _ => []) (fun _ => tv (.int .u64 r))
 | 0,_,_,_,_,r,h => by cases h
 | n + 1,l_,set_,from_,many_,r,h => counts_smallest_okS (fun l_ set_ from_ many_ r h => gcounts_smallestN_ok n l_ set_ from_ many_ r h) h
noncomputable def fcounts_smallest (l_ : (List Scounts_Limit)) (set_ : Int) (from_ : Int) (many_ : Int) : Option (Int) := gcounts_smallestN (many_.natAbs + 2) l_ set_ from_ many_
theorem counts_smallest_ok {l_ : (List Scounts_Limit)} {set_ : Int} {from_ : Int} {many_ : Int} {r : Int} (h : fcounts_smallest l_ set_ from_ many_ = some r) : FnOk Tryz.prog 58 [tsl rScounts_Limit l_,tv (.int .u64 set_),ti from_,ti many_] [glo] (fun _ => []) (fun _ => tv (.int .u64 r)) := gcounts_smallestN_ok _ _ _ _ _ _ h

/- diorama/counts.Clash -/
noncomputable def fcounts_Clash (n_ : Int) (l_ : (List Scounts_Limit)) : Option ((List Int) × Int) := (opt (((decide (n_ < (1:Int))) || (decide (n_ > (6:Int)))) == false) (fslices_ContainsFunc_Limit l_ (fun x0 => fcounts_Clashq1 x0 n_)) default).bind fun t19 => (if (((decide (n_ < (1:Int))) || (decide (n_ > (6:Int)))) || t19) = true then (some (([] : List Int),(1:Int))) else (if (decide ((l_.length : Int) > (24:Int))) = true then (some (([] : List Int),(4:Int))) else (fcounts_kept l_).bind fun t27 => (if t27 = true then (some (([] : List Int),(6:Int))) else (tailrec (fun (s12 : Int × Int) => ((if (s12.2 == (0:Int)) = true then (fcounts_smallest l_ (0:Int) (0:Int) s12.1).bind fun t34 => (some (.inl ((IntKind.i64.wrap (s12.1 + (1:Int))),t34))) else (some (.inr s12.2))) : Option ((Int × Int) ⊕ ((Int))))) ((1:Int),(0:Int))).bind fun (p22 : (Int)) => (tailrec (fun (s26 : Int × List Int) => ((if (s26.1 != (0:Int)) = true then (fbits_TrailingZeros s26.1).bind fun t43 => (rm (s26.2.length + [t43].length)).bind fun _ => (some (.inl ((iand .u64 s26.1 (IntKind.u64.wrap (s26.1 - (1:Int)))),(s26.2 ++ [t43])))) else (some (.inr s26.2))) : Option ((Int × List Int) ⊕ ((List Int))))) (p22,([] : List Int))).bind fun (p37 : (List Int)) => (some (p37,(0:Int))))))
set_option maxRecDepth 100000 in
set_option maxHeartbeats 4000000 in
theorem counts_Clash_ok {n_ : Int} {l_ : (List Scounts_Limit)} {r : (List Int) × Int} (h : fcounts_Clash n_ l_ = some r) : FnOk Tryz.prog 27 [ti n_,tsl rScounts_Limit l_] [glo] (fun _ => []) (fun _ => ttup [tsl rI r.1,ti r.2]) := by
 unfold fcounts_Clash at h
 refine FnOk.enter Tryz.func27 rfl Tryz.ntmps27 (leb rfl) (fun M0 M w0 a hpl hst => ?_)
 replace hst : St M w0 47 [(0,ti n_),(1,tsl rScounts_Limit l_)] [glo] a w0 := hst
 refine sr mixed [] hst (fun _ => .o (op_boxR (R := rI) (u := n_) z0) <| .o (op_assign (.nilsl (R := rI))) <| .o (op_assign .k) <| .n) fun n0 a w hst => ?_
 replace hst := hst.to [0,4] [_,_] [_] rfl rfl
 refine wp_seq_k (fun K2 hK2 => ?_)
 refine wp_block ?_
 obtain ⟨t19,ht19,h⟩ := bind_some h
 refine sr mixed [] hst (fun _ => .o (op_load tok3 z0) <| .o (op_lss z0 .k) <| .q 0 rfl <| .g rfl rfl (.b 0 rfl) (fun _ => op_load tok3 z3) <| .g rfl rfl (.b 1 rfl) (fun hc => op_gtr (.cond z0 hc) .k) <| .o (op_or z2 (fun hp => (.cond z0 (beqF hp)))) <| .q 0 rfl <| .g rfl rfl (.b 0 rfl) (fun _ => op_move z8) <| .g rfl rfl (.b 1 rfl) (fun _ => op_clo (.cons z8 <| .nil)) <| .g rfl rfl (.b 2 rfl) (fun hc => op_callF call55 (slices_ContainsFunc_Limit_ok (opt_t ht19 hc)) (.cons (.of (.cond z1 hc)) <| .cons (.of (Fct.weak (.cond z0 hc) (tfn_of call56 (fun _ _ hq => counts_Clashq1_ok hq)))) <| .nil)) <| .o (op_or z3 (fun hp => (.cond z0 (beqF hp)))) <| .o (op_assign z0) <| .n) fun n1 a w hst => ?_
 replace hst := hst.to [11,13] [_,_] [_] rfl rfl
 refine wt hst (fun b52 => ?_) (fun b52 => ?_)
 ·replace h := ite_t b52 h
  refine sr mixed [] hst (fun _ => .o (op_assign (.nilsl (R := rI))) <| .o (op_assign .k) <| .n) fun n2 a w hst => ?_
  replace hst := hst.to [0,1] [_,_] [_] rfl rfl
  refine wp_ret ?_
  obtain rfl := sj h
  exact ret_st undef [] hpl hst rfl (.tmp z0 (.tmp z1 .nil)) rfl rfl rfl
 ·replace h := ite_f b52 h
  refine sr mixed [] hst (fun _ => .q 1 rfl <| .o (op_len ud31 z0) <| .o (op_gtr z0 .k) <| .o (op_assign z0) <| .n) fun n3 a w hst => ?_
  replace hst := hst.to [3,5] [_,_] [_] rfl rfl
  refine wt hst (fun b51 => ?_) (fun b51 => ?_)
  ·replace h := ite_t b51 h
   refine sr mixed [] hst (fun _ => .o (op_assign (.nilsl (R := rI))) <| .o (op_assign .k) <| .n) fun n4 a w hst => ?_
   replace hst := hst.to [0,1] [_,_] [_] rfl rfl
   refine wp_ret ?_
   obtain rfl := sj h
   exact ret_st undef [] hpl hst rfl (.tmp z0 (.tmp z1 .nil)) rfl rfl rfl
  ·replace h := ite_f b51 h
   obtain ⟨t27,ht27,h⟩ := bind_some h
   refine sr mixed [] hst (fun _ => .q 1 rfl <| .o (op_callF call57 (counts_kept_ok ht27) (.cons (.of z0) <| .nil)) <| .o (op_assign z0) <| .n) fun n5 a w hst => ?_
   replace hst := hst.to [2,4] [_,_] [_] rfl rfl
   refine wt hst (fun b50 => ?_) (fun b50 => ?_)
   ·replace h := ite_t b50 h
    refine sr mixed [] hst (fun _ => .o (op_assign (.nilsl (R := rI))) <| .o (op_assign .k) <| .n) fun n6 a w hst => ?_
    replace hst := hst.to [0,1] [_,_] [_] rfl rfl
    refine wp_ret ?_
    obtain rfl := sj h
    exact ret_st undef [] hpl hst rfl (.tmp z0 (.tmp z1 .nil)) rfl rfl rfl
   ·replace h := ite_f b50 h
    refine wp_skip ?_
    refine hK2 _ _ ?_
    try clear hK2 K2
    refine sr mixed [] hst (fun _ => .o (op_assign .k) <| .n) fun n7 a w hst => ?_
    replace hst := hst.to [0,2] [_,_] [_] rfl rfl
    refine wp_seq_k (fun K10 hK10 => ?_)
    refine sr mixed [] hst (fun _ => .o (op_assign .k) <| .n) fun n8 a w hst => ?_
    replace hst := hst.to [0,1,2] [_,_,_] [_] rfl rfl
    obtain ⟨e13,he13,h⟩ := bind_some h
    have hJp22 : ∀ (p22 : Int) a w,p22 = e13 → St M w0 47 [(6,tv (.int .u64 p22))] [glo] a w → K10 a w := by
     intro p22 a w he hst
     subst he
     refine hK10 _ _ ?_
     try clear hK10 K10
     refine sr mixed [] hst (fun _ => .o (op_assign .k) <| .n) fun n12 a w hst => ?_
     replace hst : St _ _ _ [_,_] [_,_] _ _ := (hst.pick [0,1]).nil (rI) 3
     refine wp_seq_k (fun K25 hK25 => ?_)
     obtain ⟨e27,he27,h⟩ := bind_some h
     have hJp37 : ∀ (p37 : List Int) (v38 : Value) a w,p37 = e27 → St M w0 47 [(8,tv v38)] [own rI 3 p37 v38,glo] a w → K25 a w := by
      intro p37 v38 a w he hst
      subst he
      refine hK25 _ _ ?_
      try clear hK25 K25
      refine sr mixed [] hst (fun _ => .q 0 rfl <| .o (op_assign z0) <| .o (op_assign .k) <| .n) fun n16 a w hst => ?_
      replace hst := hst.to [0,1,2,3] [_,_,_,_] [_,_] rfl rfl
      refine wp_ret ?_
      replace hst : St _ _ _ [_,_] [_] _ _ := (hst.shareO 1 rfl).pick [0,3]
      obtain rfl := sj h
      exact ret_st undef [] hpl hst rfl (.tmp z0 (.tmp z1 .nil)) rfl rfl rfl
     refine wp_block ?_
     refine wp_loopK _ (fun (s26 : Int × List Int) a w => ∃ v32 : Value,St M w0 47 [(8,tv v32),(6,tv (.int .u64 s26.1))] [own rI 3 s26.2 v32,glo] a w) _ _ he27 ⟨(.slice none 0 0),hst.pick [0,1]⟩ ?_
     clear h
     intro s26 o a w K40 hI h ho hK40
     obtain ⟨v32,hst⟩ := hI
     refine wp_seq_k (fun K41 hK41 => ?_)
     refine sr mixed [] hst (fun _ => .q 1 rfl <| .o (op_neq z0 .k) <| .n) fun n13 a w hst => ?_
     replace hst := hst.to [1,2,3] [_,_,_] [_,_] rfl rfl
     refine wt hst (fun b44 => ?_) (fun b44 => ?_)
     ·replace h := ite_t b44 h
      refine wp_skip ?_
      refine hK41 _ _ ?_
      try clear hK41 K41
      refine wp_seq_k (fun K43 hK43 => ?_)
      refine wp_block ?_
      obtain ⟨t43,ht43,h⟩ := bind_some h
      obtain ⟨u45,hu45,h⟩ := bind_some h
      refine wr mixed [v1 4 (fun v0 => own rI 3 (s26.2 ++ [t43]) v0)] hst (fun _ => .q 1 rfl <| .q 3 rfl <| .u [1] rfl rfl ((op_callF call59 (bits_TrailingZeros_ok ht43) (.cons (.of z0) <| .nil)).glo) <| .o (op_buildSl (R := rI) (us := [t43]) ud22 tok3 (.cons z0 <| .nil _) rfl (leb rfl)) <| .e [] [0] [2] rfl rfl rfl rfl (op_append (R := rI) ud22 tok3 (leb rfl) z3 z0 hu45) <| .ud (f := fun v => tv v) 4 rfl [] rfl rfl (op_assign z0) <| .n) fun n15 a w hst => ?_
      replace hst := hst.to [4,5,7] [_,_,_] [_,_] rfl rfl
      refine hK43 _ _ ?_
      try clear hK43 K43
      refine wr mixed [] hst (fun _ => .q 2 rfl <| .q 3 rfl <| .o (op_sub z0 .k) <| .o (op_iand z2 z0) <| .o (op_assign z0) <| .n) fun n14 a w hst => ?_
      replace hst := hst.to [4,5,6] [_,_,_] [_,_] rfl rfl
      exact hK40 _ _ _ (sj h).symm ⟨(n15 4),(hst.pick [2,0]).selA [1,0] rfl⟩
     ·replace h := ite_f b44 h
      refine wp_exit ?_
      exact hJp37 _ v32 _ _ (ho _ (sj h).symm) (hst.pick [1])
    refine wp_block ?_
    refine wp_loopK _ (fun (s12 : Int × Int) a w => St M w0 47 [(7,ti s12.1),(6,tv (.int .u64 s12.2)),(1,tsl rScounts_Limit l_)] [glo] a w) _ _ he13 (hst.pick [0,1,2]) ?_
    clear h
    intro s12 o a w K45 hI h ho hK45
    have hst := hI
    clear hI
    refine wp_seq_k (fun K46 hK46 => ?_)
    refine sr mixed [] hst (fun _ => .q 1 rfl <| .o (op_eql z0 .k) <| .n) fun n9 a w hst => ?_
    replace hst := hst.to [1,2,3,4] [_,_,_,_] [_] rfl rfl
    refine wt hst (fun b49 => ?_) (fun b49 => ?_)
    ·replace h := ite_t b49 h
     refine wp_skip ?_
     refine hK46 _ _ ?_
     try clear hK46 K46
     refine wp_seq_k (fun K48 hK48 => ?_)
     refine wp_block ?_
     obtain ⟨t34,ht34,h⟩ := bind_some h
     refine wr mixed [] hst (fun _ => .q 3 rfl <| .q 2 rfl <| .u [0] rfl rfl ((op_callF call58 (counts_smallest_ok ht34) (.cons (.of z1) <| .cons (.of .k) <| .cons (.of .k) <| .cons (.of z0) <| .nil)).glo) <| .o (op_assign z0) <| .n) fun n11 a w hst => ?_
     replace hst := hst.to [3,5,6] [_,_,_] [_] rfl rfl
     refine hK48 _ _ ?_
     try clear hK48 K48
     refine wr mixed [] hst (fun _ => .q 1 rfl <| .o (op_add z0 .k) <| .o (op_assign z0) <| .n) fun n10 a w hst => ?_
     replace hst := hst.to [2,3,4] [_,_,_] [_] rfl rfl
     exact hK45 _ _ _ (sj h).symm (hst.pick [0,1,2])
    ·replace h := ite_f b49 h
     refine wp_exit ?_
     exact hJp22 _ _ _ (ho _ (sj h).symm) (hst.pick [2])

/- diorama/dioramaref01.SameInts -/
noncomputable def fref01_SameInts (a_ : (List Int)) (b_ : (List Int)) : Option (Bool) := (if ((a_.length : Int) != (b_.length : Int)) = true then (some false) else (tailrec (fun (s7 : Int) => ((if (decide (s7 < (a_.length : Int))) = true then (idx a_ s7).bind fun t19 => (idx b_ s7).bind fun t23 => (if (t19 != t23) = true then (some (.inr (.inr false))) else (some (.inl (IntKind.i64.wrap (s7 + (1:Int)))))) else (some (.inr (.inl ())))) : Option ((Int) ⊕ ((Unit) ⊕ (Bool))))) (0:Int)).bind fun (e8 : (Unit) ⊕ (Bool)) => (match e8 with | .inl _ => (some true) | .inr p24 => (some p24)))
set_option maxRecDepth 100000 in
set_option maxHeartbeats 4000000 in
theorem ref01_SameInts_ok {a_ : (List Int)} {b_ : (List Int)} {r : Bool} (h : fref01_SameInts a_ b_ = some r) : FnOk Tryz.prog 25 [tsl rI a_,tsl rI b_] [] (fun _ => []) (fun _ => tb r) := by
 unfold fref01_SameInts at h
 refine FnOk.enter Tryz.func25 rfl Tryz.ntmps25 (leb rfl) (fun M0 M w0 a hpl hst => ?_)
 replace hst : St M w0 26 [(0,tsl rI a_),(1,tsl rI b_)] [] a w0 := hst
 refine sr mixed [] hst (fun _ => .o (op_assign .k) <| .n) fun n0 a w hst => ?_
 replace hst := hst.to [1,2] [_,_] [] rfl rfl
 refine wp_seq_k (fun K2 hK2 => ?_)
 refine sr mixed [] hst (fun _ => .q 0 rfl <| .o (op_len ud22 z0) <| .q 3 rfl <| .o (op_len ud22 z0) <| .o (op_neq z2 z0) <| .n) fun n1 a w hst => ?_
 replace hst := hst.to [4,5,6] [_,_,_] [] rfl rfl
 refine wt hst (fun b34 => ?_) (fun b34 => ?_)
 ·replace h := ite_t b34 h
  refine sr mixed [] hst (fun _ => .o (op_assign .k) <| .n) fun n2 a w hst => ?_
  replace hst := hst.to [0] [_] [] rfl rfl
  refine wp_ret ?_
  obtain rfl := sj h
  exact ret_st undef [] hpl hst rfl (.tmp z0 .nil) rfl rfl rfl
 ·replace h := ite_f b34 h
  refine wp_skip ?_
  refine hK2 _ _ ?_
  try clear hK2 K2
  refine wp_seq_k (fun K5 hK5 => ?_)
  refine sr mixed [] hst (fun _ => .o (op_assign .k) <| .n) fun n3 a w hst => ?_
  replace hst := hst.to [0,2,3] [_,_,_] [] rfl rfl
  obtain ⟨e8,he8,h⟩ := bind_some h
  have hJp23 : ∀ (p23 : Unit) a w,(.inl p23) = e8 → St M w0 26 [] [] a w → K5 a w := by
   intro p23 a w he hst
   subst he
   simp only at h
   refine hK5 _ _ ?_
   try clear hK5 K5
   refine sr mixed [] hst (fun _ => .o (op_assign .k) <| .n) fun n8 a w hst => ?_
   replace hst := hst.to [0] [_] [] rfl rfl
   refine wp_ret ?_
   obtain rfl := sj h
   exact ret_st undef [] hpl hst rfl (.tmp z0 .nil) rfl rfl rfl
  have hJp24 : ∀ (p24 : Bool) a w,(.inr p24) = e8 → St M w0 26 [(4,tb p24)] [] a w → Ret Tryz.prog Tryz.f25 M0 [] w0 (fun _ => []) (fun _ => tb r) .ret a w := by
   intro p24 a w he hst
   subst he
   simp only at h
   obtain rfl := sj h
   exact ret_st undef [] hpl hst rfl (.tmp z0 .nil) rfl rfl rfl
  refine wp_block ?_
  refine wp_loopK _ (fun (s7 : Int) a w => St M w0 26 [(5,ti s7),(0,tsl rI a_),(1,tsl rI b_)] [] a w) _ _ he8 (hst.pick [0,1,2]) ?_
  clear h
  intro s7 o a w K26 hI h ho hK26
  have hst := hI
  clear hI
  refine wp_seq_k (fun K27 hK27 => ?_)
  refine sr mixed [] hst (fun _ => .q 0 rfl <| .q 2 rfl <| .o (op_len ud22 z0) <| .o (op_lss z2 z0) <| .n) fun n4 a w hst => ?_
  replace hst := hst.to [3,4,5,6] [_,_,_,_] [] rfl rfl
  refine wt hst (fun b33 => ?_) (fun b33 => ?_)
  ·replace h := ite_t b33 h
   refine wp_skip ?_
   refine hK27 _ _ ?_
   try clear hK27 K27
   refine wp_seq_k (fun K29 hK29 => ?_)
   refine wp_block ?_
   obtain ⟨t19,ht19,h⟩ := bind_some h
   obtain ⟨t23,ht23,h⟩ := bind_some h
   refine sr mixed [] hst (fun _ => .q 2 rfl <| .q 2 rfl <| .o (op_index ud22 tok3 z1 z0 ht19) <| .o (op_load tok3 z0) <| .q 7 rfl <| .q 6 rfl <| .o (op_index ud22 tok3 z1 z0 ht23) <| .o (op_load tok3 z0) <| .o (op_neq z4 z0) <| .n) fun n6 a w hst => ?_
   replace hst := hst.to [8,10,11,12] [_,_,_,_] [] rfl rfl
   refine wt hst (fun b32 => ?_) (fun b32 => ?_)
   ·replace h := ite_t b32 h
    refine sr mixed [] hst (fun _ => .o (op_assign .k) <| .n) fun n7 a w hst => ?_
    replace hst := hst.to [0] [_] [] rfl rfl
    refine wp_ret ?_
    exact hJp24 _ _ _ (ho _ (sj h).symm) (hst.pick [0])
   ·replace h := ite_f b32 h
    refine wp_skip ?_
    refine hK29 _ _ ?_
    try clear hK29 K29
    refine wr mixed [] hst (fun _ => .q 1 rfl <| .o (op_add z0 .k) <| .o (op_assign z0) <| .n) fun n5 a w hst => ?_
    replace hst := hst.to [2,4,5] [_,_,_] [] rfl rfl
    exact hK26 _ _ _ (sj h).symm (hst.pick [0,1,2])
  ·replace h := ite_f b33 h
   refine wp_exit ?_
   exact hJp23 _ _ _ (ho _ (sj h).symm) (hst.pick [])

/- diorama/dioramalaw13.lives -/
noncomputable def flaw13_lives  : Option (Bool) := (flaw13_example (3:Int)).bind fun t13 => (fcounts_Plan t13 [(2:Int),(9:Int)]).bind fun t15 => (flaw13_example (3:Int)).bind fun t19 => (fcounts_Plan t19 [(1:Int),(9:Int)]).bind fun t21 => (flaw13_example (9:Int)).bind fun t25 => (fcounts_Plan t25 [(2:Int),(9:Int)]).bind fun t27 => (flaw13_example (9:Int)).bind fun t31 => (fcounts_Limits t31).bind fun t32 => (if ((((((t15.2 != (0:Int)) || (t21.2 != (0:Int))) || (t27.2 != (14:Int))) || (t32.2.2 != (0:Int))) || ((t32.1.length : Int) != (6:Int))) || ((t32.2.1.length : Int) != (6:Int))) = true then (some false) else (fcounts_Clash (2:Int) t32.1).bind fun t62 => (opt ((t62.2 != (0:Int)) == false) (fref01_SameInts t62.1 [(1:Int),(2:Int),(5:Int)]) default).bind fun t70 => (opt (((t62.2 != (0:Int)) || (!t70)) == false) (idx t32.2.1 (1:Int)) default).bind fun t75 => (opt ((((t62.2 != (0:Int)) || (!t70)) || (t75 != ([97,32,109,111,115,116] : Str))) == false) (idx t32.2.1 (2:Int)) default).bind fun t81 => (opt (((((t62.2 != (0:Int)) || (!t70)) || (t75 != ([97,32,109,111,115,116] : Str))) || (t81 != ([98,32,108,101,97,115,116] : Str))) == false) (idx t32.2.1 (5:Int)) default).bind fun t87 => (if (((((t62.2 != (0:Int)) || (!t70)) || (t75 != ([97,32,109,111,115,116] : Str))) || (t81 != ([98,32,108,101,97,115,116] : Str))) || (t87 != ([98,46,111,102,32,109,111,115,116] : Str))) = true then (some false) else (fref01_SameInts t15.1 [(2:Int),(8:Int)]).bind fun t93 => (opt (t93 == true) (fref01_SameInts t21.1 [(2:Int),(8:Int)]) default).bind fun t97 => (opt ((t93 && t97) == true) (idx t32.1 (5:Int)) default).bind fun t101 => (opt ((t93 && t97) == true) (fcounts_Holds t101 [(2:Int),(9:Int)]) default).bind fun t104 => (opt (((t93 && t97) && (!t104)) == true) (idx t32.1 (5:Int)) default).bind fun t109 => (opt (((t93 && t97) && (!t104)) == true) (fcounts_Holds t109 [(2:Int),(8:Int)]) default).bind fun t112 => (some (((t93 && t97) && (!t104)) && t112))))
set_option maxRecDepth 100000 in
set_option maxHeartbeats 4000000 in
theorem law13_lives_ok {r : Bool} (h : flaw13_lives  = some r) : FnOk Tryz.prog 16 [] [glo] (fun _ => []) (fun _ => tb r) := by
 unfold flaw13_lives at h
 refine FnOk.enter Tryz.func16 rfl Tryz.ntmps16 (leb rfl) (fun M0 M w0 a hpl hst => ?_)
 replace hst : St M w0 114 [] [glo] a w0 := hst
 refine sr mixed [] hst (fun _ => .o (op_assign .k) <| .n) fun n0 a w hst => ?_
 replace hst := hst.to [] [] [_] rfl rfl
 obtain ⟨t13,ht13,h⟩ := bind_some h
 obtain ⟨t15,ht15,h⟩ := bind_some h
 refine sr mixed [] hst (fun _ => .o (op_callF call26 (law13_example_ok ht13) (.cons (.of .k) <| .nil)) <| .o (op_buildSl (R := rI) (us := [(2:Int),(9:Int)]) ud22 tok3 (.cons .k <| .cons .k <| .nil _) rfl (leb rfl)) <| .u [0] rfl rfl ((op_callF call23 (counts_Plan_ok ht15) (.cons (.of z1) <| .cons (.of z0) <| .nil)).glo) <| .q 0 rfl <| .o (op_extract z0 rfl) <| .o (op_extract z1 rfl) <| .o (op_assign z1) <| .o (op_assign z1) <| .n) fun n1 a w hst => ?_
 replace hst := hst.to [6,7] [_,_] [_] rfl rfl
 obtain ⟨t19,ht19,h⟩ := bind_some h
 obtain ⟨t21,ht21,h⟩ := bind_some h
 refine sr mixed [] hst (fun _ => .o (op_callF call26 (law13_example_ok ht19) (.cons (.of .k) <| .nil)) <| .o (op_buildSl (R := rI) (us := [(1:Int),(9:Int)]) ud22 tok3 (.cons .k <| .cons .k <| .nil _) rfl (leb rfl)) <| .u [0] rfl rfl ((op_callF call23 (counts_Plan_ok ht21) (.cons (.of z1) <| .cons (.of z0) <| .nil)).glo) <| .q 0 rfl <| .o (op_extract z0 rfl) <| .o (op_extract z1 rfl) <| .o (op_assign z1) <| .o (op_assign z1) <| .n) fun n2 a w hst => ?_
 replace hst := hst.to [6,7,8,9] [_,_,_,_] [_] rfl rfl
 obtain ⟨t25,ht25,h⟩ := bind_some h
 obtain ⟨t27,ht27,h⟩ := bind_some h
 refine sr mixed [] hst (fun _ => .o (op_callF call26 (law13_example_ok ht25) (.cons (.of .k) <| .nil)) <| .o (op_buildSl (R := rI) (us := [(2:Int),(9:Int)]) ud22 tok3 (.cons .k <| .cons .k <| .nil _) rfl (leb rfl)) <| .u [0] rfl rfl ((op_callF call23 (counts_Plan_ok ht27) (.cons (.of z1) <| .cons (.of z0) <| .nil)).glo) <| .q 0 rfl <| .o (op_extract z0 rfl) <| .o (op_extract z1 rfl) <| .o (op_assign z1) <| .o (op_assign z1) <| .n) fun n3 a w hst => ?_
 replace hst := hst.to [7,8,9,10,11] [_,_,_,_,_] [_] rfl rfl
 obtain ⟨t31,ht31,h⟩ := bind_some h
 obtain ⟨t32,ht32,h⟩ := bind_some h
 refine sr mixed [] hst (fun _ => .o (op_callF call26 (law13_example_ok ht31) (.cons (.of .k) <| .nil)) <| .u [0] rfl rfl ((op_callF call12 (counts_Limits_ok ht32) (.cons (.of z0) <| .nil)).glo) <| .q 0 rfl <| .o (op_extract z0 rfl) <| .o (op_extract z1 rfl) <| .o (op_extract z2 rfl) <| .o (op_assign z2) <| .o (op_assign z2) <| .o (op_assign z2) <| .n) fun n4 a w hst => ?_
 replace hst := hst.to [6,7,8,9,10,11,12,13] [_,_,_,_,_,_,_,_] [_] rfl rfl
 refine wp_seq_k (fun K6 hK6 => ?_)
 refine sr mixed [] hst (fun _ => .q 7 rfl <| .o (op_neq z0 .k) <| .q 0 rfl <| .g rfl rfl (.b 0 rfl) (fun _ => op_move z8) <| .g rfl rfl (.b 1 rfl) (fun hc => op_neq (.cond z0 hc) .k) <| .o (op_or z2 (fun hp => (.cond z0 (beqF hp)))) <| .q 0 rfl <| .g rfl rfl (.b 0 rfl) (fun _ => op_move z10) <| .g rfl rfl (.b 1 rfl) (fun hc => op_neq (.cond z0 hc) .k) <| .o (op_or z2 (fun hp => (.cond z0 (beqF hp)))) <| .q 0 rfl <| .g rfl rfl (.b 0 rfl) (fun _ => op_move z13) <| .g rfl rfl (.b 1 rfl) (fun hc => op_neq (.cond z0 hc) .k) <| .o (op_or z2 (fun hp => (.cond z0 (beqF hp)))) <| .q 0 rfl <| .g rfl rfl (.b 0 rfl) (fun _ => op_move z15) <| .g rfl rfl (.b 1 rfl) (fun hc => op_len ud31 (.cond z0 hc)) <| .g rfl rfl (.b 2 rfl) (fun hc => op_neq (.cond z0 hc) .k) <| .o (op_or z3 (fun hp => (.cond z0 (beqF hp)))) <| .q 0 rfl <| .g rfl rfl (.b 0 rfl) (fun _ => op_move z21) <| .g rfl rfl (.b 1 rfl) (fun hc => op_len ud32 (.cond z0 hc)) <| .g rfl rfl (.b 2 rfl) (fun hc => op_neq (.cond z0 hc) .k) <| .o (op_or z3 (fun hp => (.cond z0 (beqF hp)))) <| .n) fun n5 a w hst => ?_
 replace hst := hst.to [23,24,25,28,30] [_,_,_,_,_] [_] rfl rfl
 refine wt hst (fun b15 => ?_) (fun b15 => ?_)
 ·replace h := ite_t b15 h
  refine sr mixed [] hst (fun _ => .o (op_assign .k) <| .n) fun n6 a w hst => ?_
  replace hst := hst.to [0] [_] [_] rfl rfl
  refine wp_ret ?_
  obtain rfl := sj h
  exact ret_st undef [] hpl hst rfl (.tmp z0 .nil) rfl rfl rfl
 ·replace h := ite_f b15 h
  refine wp_skip ?_
  refine hK6 _ _ ?_
  try clear hK6 K6
  obtain ⟨t62,ht62,h⟩ := bind_some h
  refine sr mixed [] hst (fun _ => .q 1 rfl <| .u [0] rfl rfl ((op_callF call27 (counts_Clash_ok ht62) (.cons (.of .k) <| .cons (.of z0) <| .nil)).glo) <| .q 0 rfl <| .o (op_extract z0 rfl) <| .o (op_extract z1 rfl) <| .o (op_assign z1) <| .o (op_assign z1) <| .n) fun n7 a w hst => ?_
  replace hst := hst.to [5,6,8,9,10,11] [_,_,_,_,_,_] [_] rfl rfl
  refine wp_seq_k (fun K10 hK10 => ?_)
  obtain ⟨t70,ht70,h⟩ := bind_some h
  obtain ⟨t75,ht75,h⟩ := bind_some h
  obtain ⟨t81,ht81,h⟩ := bind_some h
  obtain ⟨t87,ht87,h⟩ := bind_some h
  refine sr mixed [] hst (fun _ => .q 1 rfl <| .o (op_neq z0 .k) <| .q 0 rfl <| .g rfl rfl (.b 0 rfl) (fun _ => op_move z3) <| .g rfl rfl (.b 1 rfl) (fun _ => op_buildSl (R := rI) (us := [(1:Int),(2:Int),(5:Int)]) ud22 tok3 (.cons .k <| .cons .k <| .cons .k <| .nil _) rfl (leb rfl)) <| .g rfl rfl (.b 2 rfl) (fun hc => op_callF call25 (ref01_SameInts_ok (opt_t ht70 hc)) (.cons (.of (.cond z1 hc)) <| .cons (.of (.cond z0 hc)) <| .nil)) <| .g rfl rfl (.b 3 rfl) (fun hc => op_not (.cond z0 hc)) <| .o (op_or z4 (fun hp => (.cond z0 (beqF hp)))) <| .q 0 rfl <| .g rfl rfl (.b 0 rfl) (fun _ => op_move z12) <| .g rfl rfl (.b 1 rfl) (fun hc => op_index ud32 tok9 (.cond z0 hc) .k (opt_t ht75 hc)) <| .g rfl rfl (.b 2 rfl) (fun hc => op_load tok9 (.cond z0 hc)) <| .g rfl rfl (.b 3 rfl) (fun hc => op_neqS (.cond z0 hc) .k) <| .o (op_or z4 (fun hp => (.cond z0 (beqF hp)))) <| .q 0 rfl <| .g rfl rfl (.b 0 rfl) (fun _ => op_move z18) <| .g rfl rfl (.b 1 rfl) (fun hc => op_index ud32 tok9 (.cond z0 hc) .k (opt_t ht81 hc)) <| .g rfl rfl (.b 2 rfl) (fun hc => op_load tok9 (.cond z0 hc)) <| .g rfl rfl (.b 3 rfl) (fun hc => op_neqS (.cond z0 hc) .k) <| .o (op_or z4 (fun hp => (.cond z0 (beqF hp)))) <| .q 0 rfl <| .g rfl rfl (.b 0 rfl) (fun _ => op_move z24) <| .g rfl rfl (.b 1 rfl) (fun hc => op_index ud32 tok9 (.cond z0 hc) .k (opt_t ht87 hc)) <| .g rfl rfl (.b 2 rfl) (fun hc => op_load tok9 (.cond z0 hc)) <| .g rfl rfl (.b 3 rfl) (fun hc => op_neqS (.cond z0 hc) .k) <| .o (op_or z4 (fun hp => (.cond z0 (beqF hp)))) <| .n) fun n8 a w hst => ?_
  replace hst := hst.to [25,28,30,31] [_,_,_,_] [_] rfl rfl
  refine wt hst (fun b14 => ?_) (fun b14 => ?_)
  ·replace h := ite_t b14 h
   refine sr mixed [] hst (fun _ => .o (op_assign .k) <| .n) fun n9 a w hst => ?_
   replace hst := hst.to [0] [_] [_] rfl rfl
   refine wp_ret ?_
   obtain rfl := sj h
   exact ret_st undef [] hpl hst rfl (.tmp z0 .nil) rfl rfl rfl
  ·replace h := ite_f b14 h
   refine wp_skip ?_
   refine hK10 _ _ ?_
   try clear hK10 K10
   obtain ⟨t93,ht93,h⟩ := bind_some h
   obtain ⟨t97,ht97,h⟩ := bind_some h
   obtain ⟨t101,ht101,h⟩ := bind_some h
   obtain ⟨t104,ht104,h⟩ := bind_some h
   obtain ⟨t109,ht109,h⟩ := bind_some h
   obtain ⟨t112,ht112,h⟩ := bind_some h
   refine sr mixed [] hst (fun _ => .q 3 rfl <| .o (op_buildSl (R := rI) (us := [(2:Int),(8:Int)]) ud22 tok3 (.cons .k <| .cons .k <| .nil _) rfl (leb rfl)) <| .o (op_callF call25 (ref01_SameInts_ok ht93) (.cons (.of z1) <| .cons (.of z0) <| .nil)) <| .q 0 rfl <| .g rfl rfl (.b 0 rfl) (fun _ => op_move z6) <| .g rfl rfl (.b 1 rfl) (fun _ => op_buildSl (R := rI) (us := [(2:Int),(8:Int)]) ud22 tok3 (.cons .k <| .cons .k <| .nil _) rfl (leb rfl)) <| .g rfl rfl (.b 2 rfl) (fun hc => op_callF call25 (ref01_SameInts_ok (opt_t ht97 hc)) (.cons (.of (.cond z1 hc)) <| .cons (.of (.cond z0 hc)) <| .nil)) <| .o (op_and z3 (fun hp => (.cond z0 (beqT hp)))) <| .q 0 rfl <| .g rfl rfl (.b 0 rfl) (fun _ => op_move z10) <| .g rfl rfl (.b 1 rfl) (fun hc => op_index ud31 tok43 (.cond z0 hc) .k (opt_t ht101 hc)) <| .g rfl rfl (.b 2 rfl) (fun hc => op_load tok43 (.cond z0 hc)) <| .g rfl rfl (.b 3 rfl) (fun _ => op_buildSl (R := rI) (us := [(2:Int),(9:Int)]) ud22 tok3 (.cons .k <| .cons .k <| .nil _) rfl (leb rfl)) <| .g rfl rfl (.b 4 rfl) (fun hc => op_callF call21 (counts_Holds_ok (opt_t ht104 hc)) (.cons (.of (.cond z1 hc)) <| .cons (.of (.cond z0 hc)) <| .nil)) <| .g rfl rfl (.b 5 rfl) (fun hc => op_not (.cond z0 hc)) <| .o (op_and z6 (fun hp => (.cond z0 (beqT hp)))) <| .q 0 rfl <| .g rfl rfl (.b 0 rfl) (fun _ => op_move z18) <| .g rfl rfl (.b 1 rfl) (fun hc => op_index ud31 tok43 (.cond z0 hc) .k (opt_t ht109 hc)) <| .g rfl rfl (.b 2 rfl) (fun hc => op_load tok43 (.cond z0 hc)) <| .g rfl rfl (.b 3 rfl) (fun _ => op_buildSl (R := rI) (us := [(2:Int),(8:Int)]) ud22 tok3 (.cons .k <| .cons .k <| .nil _) rfl (leb rfl)) <| .g rfl rfl (.b 4 rfl) (fun hc => op_callF call21 (counts_Holds_ok (opt_t ht112 hc)) (.cons (.of (.cond z1 hc)) <| .cons (.of (.cond z0 hc)) <| .nil)) <| .o (op_and z5 (fun hp => (.cond z0 (beqT hp)))) <| .o (op_assign z0) <| .n) fun n10 a w hst => ?_
   replace hst := hst.to [23] [_] [_] rfl rfl
   refine wp_ret ?_
   obtain rfl := sj h
   exact ret_st undef [] hpl hst rfl (.tmp z0 .nil) rfl rfl rfl

/- diorama/dioramalaw13.CountsBoth -/
noncomputable def flaw13_CountsBoth (l_ : (List Int)) (n_ : Int) (a_ : (List Int)) (b_ : (List Int)) : Option (Bool) := (fref01_Around n_ (6:Int)).bind fun t18 => (fref13_Made l_ (IntKind.i64.wrap ((1:Int) + t18))).bind fun t22 => (flaw13_given t22).bind fun t23 => (flaw13_some a_ (IntKind.i64.wrap ((1:Int) + t18))).bind fun t26 => (flaw13_some b_ (IntKind.i64.wrap ((1:Int) + t18))).bind fun t29 => (tailrec (fun (s12 : Int × List Int × List Int) => ((if (decide (s12.1 < (IntKind.i64.wrap ((1:Int) + t18)))) = true then (idx t26 s12.1).bind fun t38 => (idx t29 s12.1).bind fun t42 => (rm (s12.2.2.length + [(imin t38 t42)].length)).bind fun _ => (idx t26 s12.1).bind fun t50 => (idx t29 s12.1).bind fun t54 => (rm (s12.2.1.length + [(imax t50 t54)].length)).bind fun _ => (some (.inl ((IntKind.i64.wrap (s12.1 + (1:Int))),(s12.2.1 ++ [(imax t50 t54)]),(s12.2.2 ++ [(imin t38 t42)])))) else (some (.inr (s12.2.1,s12.2.2)))) : Option ((Int × List Int × List Int) ⊕ ((List Int × List Int))))) ((0:Int),([] : List Int),([] : List Int))).bind fun (p26 : (List Int × List Int)) => (tailrec (fun (s31 : Int) => ((if (decide (s31 < (t23.length : Int))) = true then (idx t23 s31).bind fun t67 => (fcounts_Holds t67 t26).bind fun t70 => (opt (t70 == true) (idx t23 s31) default).bind fun t74 => (opt (t70 == true) (fcounts_Holds t74 t29) default).bind fun t77 => (opt ((t70 && t77) == true) (idx t23 s31) default).bind fun t82 => (opt ((t70 && t77) == true) (fcounts_Holds t82 p26.2) default).bind fun t85 => (opt (((t70 && t77) == true) && ((!t85) == false)) (idx t23 s31) default).bind fun t90 => (opt (((t70 && t77) == true) && ((!t85) == false)) (fcounts_Holds t90 p26.1) default).bind fun t93 => (if ((t70 && t77) && ((!t85) || (!t93))) = true then (some (.inr (.inr false))) else (some (.inl (IntKind.i64.wrap (s31 + (1:Int)))))) else (some (.inr (.inl ())))) : Option ((Int) ⊕ ((Unit) ⊕ (Bool))))) (0:Int)).bind fun (e32 : (Unit) ⊕ (Bool)) => (match e32 with | .inl _ => (flaw13_lives).bind fun t97 => (some t97) | .inr p48 => (some p48))
set_option maxRecDepth 100000 in
set_option maxHeartbeats 4000000 in
theorem law13_CountsBoth_ok {l_ : (List Int)} {n_ : Int} {a_ : (List Int)} {b_ : (List Int)} {r : Bool} (h : flaw13_CountsBoth l_ n_ a_ b_ = some r) : FnOk Tryz.prog 9 [tsl rI l_,ti n_,tsl rI a_,tsl rI b_] [glo] (fun _ => []) (fun _ => tb r) := by
 unfold flaw13_CountsBoth at h
 refine FnOk.enter Tryz.func9 rfl Tryz.ntmps9 (leb rfl) (fun M0 M w0 a hpl hst => ?_)
 replace hst : St M w0 98 [(0,tsl rI l_),(1,ti n_),(2,tsl rI a_),(3,tsl rI b_)] [glo] a w0 := hst
 refine sr mixed [] hst (fun _ => .o (op_assign .k) <| .n) fun n0 a w hst => ?_
 replace hst := hst.to [1,2,3,4] [_,_,_,_] [_] rfl rfl
 obtain ⟨t18,ht18,h⟩ := bind_some h
 refine sr mixed [] hst (fun _ => .q 1 rfl <| .o (op_callF call17 (ref01_Around_ok ht18) (.cons (.of z0) <| .cons (.of .k) <| .nil)) <| .o (op_add .k z0) <| .o (op_assign z0) <| .n) fun n1 a w hst => ?_
 replace hst := hst.to [3,4,6,7] [_,_,_,_] [_] rfl rfl
 obtain ⟨t22,ht22,h⟩ := bind_some h
 obtain ⟨t23,ht23,h⟩ := bind_some h
 refine sr mixed [] hst (fun _ => .q 1 rfl <| .q 1 rfl <| .o (op_callF call18 ((ref13_Made_ok ht22).ro ro_self) (.cons (.of z1) <| .cons (.of z0) <| .nil)) <| .o (op_callF call28 (law13_given_ok ht23) (.cons (.of z0) <| .nil)) <| .o (op_assign z0) <| .n) fun n2 a w hst => ?_
 replace hst := hst.to [4,5,7,8] [_,_,_,_] [_] rfl rfl
 obtain ⟨t26,ht26,h⟩ := bind_some h
 refine sr mixed [] hst (fun _ => .q 2 rfl <| .q 2 rfl <| .o (op_callF call19 (law13_some_ok ht26) (.cons (.of z1) <| .cons (.of z0) <| .nil)) <| .o (op_assign z0) <| .n) fun n3 a w hst => ?_
 replace hst := hst.to [3,4,5,7] [_,_,_,_] [_] rfl rfl
 obtain ⟨t29,ht29,h⟩ := bind_some h
 refine sr mixed [] hst (fun _ => .q 3 rfl <| .q 3 rfl <| .o (op_callF call19 (law13_some_ok ht29) (.cons (.of z1) <| .cons (.of z0) <| .nil)) <| .o (op_assign z0) <| .n) fun n4 a w hst => ?_
 replace hst := hst.to [3,4,5,6] [_,_,_,_] [_] rfl rfl
 refine sr mixed [] hst (fun _ => .o (op_assign .k) <| .n) fun n5 a w hst => ?_
 replace hst : St _ _ _ [_,_,_,_,_] [_,_] _ _ := (hst.pick [0,1,2,3,4]).nil (rI) 3
 refine sr mixed [] hst (fun _ => .o (op_assign .k) <| .n) fun n6 a w hst => ?_
 replace hst : St _ _ _ [_,_,_,_,_,_] [_,_,_] _ _ := (hst.pick [0,1,2,3,4,5]).nil (rI) 3
 refine wp_seq_k (fun K10 hK10 => ?_)
 refine sr mixed [] hst (fun _ => .o (op_assign .k) <| .n) fun n7 a w hst => ?_
 replace hst := hst.to [0,1,2,3,4,5,6] [_,_,_,_,_,_,_] [_,_,_] rfl rfl
 obtain ⟨e13,he13,h⟩ := bind_some h
 have hJp26 : ∀ (p26 : List Int × List Int) (v27 : Value) (v28 : Value) a w,p26 = e13 → St M w0 98 [(14,tv v27),(13,tv v28),(12,tsl rI t29),(11,tsl rI t26),(10,tsl rScounts_Limit t23)] [own rI 3 p26.1 v27,own rI 3 p26.2 v28,glo] a w → K10 a w := by
  intro p26 v27 v28 a w he hst
  subst he
  refine hK10 _ _ ?_
  try clear hK10 K10
  refine wp_seq_k (fun K29 hK29 => ?_)
  refine sr mixed [] hst (fun _ => .o (op_assign .k) <| .n) fun n12 a w hst => ?_
  replace hst := hst.to [0,1,2,3,4,5] [_,_,_,_,_,_] [_,_,_] rfl rfl
  obtain ⟨e32,he32,h⟩ := bind_some h
  have hJp47 : ∀ (p47 : Unit) a w,(.inl p47) = e32 → St M w0 98 [] [glo] a w → K29 a w := by
   intro p47 a w he hst
   subst he
   simp only at h
   refine hK29 _ _ ?_
   try clear hK29 K29
   obtain ⟨t97,ht97,h⟩ := bind_some h
   refine sr mixed [] hst (fun _ => .u [0] rfl rfl ((op_callF call16 (law13_lives_ok ht97) (.nil)).glo) <| .o (op_assign z0) <| .n) fun n17 a w hst => ?_
   replace hst := hst.to [1] [_] [_] rfl rfl
   refine wp_ret ?_
   obtain rfl := sj h
   exact ret_st undef [] hpl hst rfl (.tmp z0 .nil) rfl rfl rfl
  have hJp48 : ∀ (p48 : Bool) a w,(.inr p48) = e32 → St M w0 98 [(8,tb p48)] [glo] a w → Ret Tryz.prog Tryz.f9 M0 [glo] w0 (fun _ => []) (fun _ => tb r) .ret a w := by
   intro p48 a w he hst
   subst he
   simp only at h
   obtain rfl := sj h
   exact ret_st undef [] hpl hst rfl (.tmp z0 .nil) rfl rfl rfl
  refine wp_block ?_
  refine wp_loopK _ (fun (s31 : Int) a w => St M w0 98 [(16,ti s31),(14,tv v27),(13,tv v28),(12,tsl rI t29),(11,tsl rI t26),(10,tsl rScounts_Limit t23)] [own rI 3 p26.1 v27,own rI 3 p26.2 v28,glo] a w) _ _ he32 (hst.pick [0,1,2,3,4,5]) ?_
  clear h
  intro s31 o a w K50 hI h ho hK50
  have hst := hI
  clear hI
  refine wp_seq_k (fun K51 hK51 => ?_)
  refine sr mixed [] hst (fun _ => .q 0 rfl <| .q 6 rfl <| .o (op_len ud31 z0) <| .o (op_lss z2 z0) <| .n) fun n13 a w hst => ?_
  replace hst := hst.to [3,4,5,6,7,8,9] [_,_,_,_,_,_,_] [_,_,_] rfl rfl
  refine wt hst (fun b57 => ?_) (fun b57 => ?_)
  ·replace h := ite_t b57 h
   refine wp_skip ?_
   refine hK51 _ _ ?_
   try clear hK51 K51
   refine wp_seq_k (fun K53 hK53 => ?_)
   refine wp_block ?_
   obtain ⟨t67,ht67,h⟩ := bind_some h
   obtain ⟨t70,ht70,h⟩ := bind_some h
   obtain ⟨t74,ht74,h⟩ := bind_some h
   obtain ⟨t77,ht77,h⟩ := bind_some h
   obtain ⟨t82,ht82,h⟩ := bind_some h
   obtain ⟨t85,ht85,h⟩ := bind_some h
   obtain ⟨t90,ht90,h⟩ := bind_some h
   obtain ⟨t93,ht93,h⟩ := bind_some h
   refine sr mixed [] hst (fun _ => .q 6 rfl <| .q 2 rfl <| .o (op_index ud31 tok43 z1 z0 ht67) <| .o (op_load tok43 z0) <| .q 9 rfl <| .o (op_callF call21 (counts_Holds_ok ht70) (.cons (.of z1) <| .cons (.of z0) <| .nil)) <| .q 0 rfl <| .g rfl rfl (.b 0 rfl) (fun _ => op_move z13) <| .g rfl rfl (.b 1 rfl) (fun _ => op_move z9) <| .g rfl rfl (.b 2 rfl) (fun hc => op_index ud31 tok43 (.cond z1 hc) (.cond z0 hc) (opt_t ht74 hc)) <| .g rfl rfl (.b 3 rfl) (fun hc => op_load tok43 (.cond z0 hc)) <| .g rfl rfl (.b 4 rfl) (fun _ => op_move z15) <| .g rfl rfl (.b 5 rfl) (fun hc => op_callF call21 (counts_Holds_ok (opt_t ht77 hc)) (.cons (.of (.cond z1 hc)) <| .cons (.of (.cond z0 hc)) <| .nil)) <| .o (op_and z6 (fun hp => (.cond z0 (beqT hp)))) <| .q 0 rfl <| .g rfl rfl (.b 0 rfl) (fun _ => op_move z21) <| .g rfl rfl (.b 1 rfl) (fun _ => op_move z17) <| .g rfl rfl (.b 2 rfl) (fun hc => op_index ud31 tok43 (.cond z1 hc) (.cond z0 hc) (opt_t ht82 hc)) <| .g rfl rfl (.b 3 rfl) (fun hc => op_load tok43 (.cond z0 hc)) <| .g rfl rfl (.b 4 rfl) (fun _ => op_move z22) <| .gu [1] rfl rfl rfl (.b 5 rfl) (fun hc => op_callFU [own rI 3 p26.2 v28] call21 (counts_Holds_ok (opt_t ht85 hc)) (.cons (.of (.cond z1 hc)) <| .cons (.own (.cond z0 hc) (.head _)) <| .nil) (fun _ => flat_tv) (fun _ => flatN0 (x := undef))) <| .g rfl rfl (.b 6 rfl) (fun hc => op_not (.cond z0 hc)) <| .g rfl rfl (.b 7 rfl) (fun hc => op_move (.cond z0 hc)) <| .g rfl rfl (.c 0 rfl) (fun _ => op_move z29) <| .g rfl rfl (.c 1 rfl) (fun _ => op_move z25) <| .g rfl rfl (.c 2 rfl) (fun hc => op_index ud31 tok43 (.cond z1 hc) (.cond z0 hc) (opt_t ht90 hc)) <| .g rfl rfl (.c 3 rfl) (fun hc => op_load tok43 (.cond z0 hc)) <| .g rfl rfl (.c 4 rfl) (fun _ => op_move z29) <| .gu [0] rfl rfl rfl (.c 5 rfl) (fun hc => op_callFU [own rI 3 p26.1 v27] call21 (counts_Holds_ok (opt_t ht93 hc)) (.cons (.of (.cond z1 hc)) <| .cons (.own (.cond z0 hc) (.head _)) <| .nil) (fun _ => flat_tv) (fun _ => flatN0 (x := undef))) <| .g rfl rfl (.c 6 rfl) (fun hc => op_not (.cond z0 hc)) <| .g rfl rfl (.b 15 rfl) (fun hc => op_or (.cond z7 hc) (fun hp => (.cond z0 (band_mk hc (beqF hp))))) <| .o (op_and z16 (fun hp => (.cond z0 (beqT hp)))) <| .n) fun n15 a w hst => ?_
   replace hst := hst.to [31,33,34,35,36,37,38] [_,_,_,_,_,_,_] [_,_,_] rfl rfl
   refine wt hst (fun b56 => ?_) (fun b56 => ?_)
   ·replace h := ite_t b56 h
    refine sr mixed [] hst (fun _ => .o (op_assign .k) <| .n) fun n16 a w hst => ?_
    replace hst := hst.to [0,3,4] [_,_,_] [_,_,_] rfl rfl
    refine wp_ret ?_
    exact hJp48 _ _ _ (ho _ (sj h).symm) ((hst.pick [0]).selA [2] rfl)
   ·replace h := ite_f b56 h
    refine wp_skip ?_
    refine hK53 _ _ ?_
    try clear hK53 K53
    refine wr mixed [] hst (fun _ => .q 1 rfl <| .o (op_add z0 .k) <| .o (op_assign z0) <| .n) fun n14 a w hst => ?_
    replace hst := hst.to [2,4,5,6,7,8] [_,_,_,_,_,_] [_,_,_] rfl rfl
    exact hK50 _ _ _ (sj h).symm (hst.pick [0,1,2,3,4,5])
  ·replace h := ite_f b57 h
   refine wp_exit ?_
   exact hJp47 _ _ _ (ho _ (sj h).symm) ((hst.pick []).selA [2] rfl)
 refine wp_block ?_
 refine wp_loopK _ (fun (s12 : Int × List Int × List Int) a w => ∃ v19 : Value,∃ v20 : Value,St M w0 98 [(15,ti s12.1),(14,tv v19),(13,tv v20),(12,tsl rI t29),(11,tsl rI t26),(10,tsl rScounts_Limit t23),(9,ti (IntKind.i64.wrap ((1:Int) + t18)))] [own rI 3 s12.2.1 v19,own rI 3 s12.2.2 v20,glo] a w) _ _ he13 ⟨(.slice none 0 0),(.slice none 0 0),hst.pick [0,1,2,3,4,5,6]⟩ ?_
 clear h
 intro s12 o a w K58 hI h ho hK58
 obtain ⟨v19,v20,hst⟩ := hI
 refine wp_seq_k (fun K59 hK59 => ?_)
 refine sr mixed [] hst (fun _ => .q 0 rfl <| .q 7 rfl <| .o (op_lss z1 z0) <| .n) fun n8 a w hst => ?_
 replace hst := hst.to [2,3,4,5,6,7,8,9] [_,_,_,_,_,_,_,_] [_,_,_] rfl rfl
 refine wt hst (fun b63 => ?_) (fun b63 => ?_)
 ·replace h := ite_t b63 h
  refine wp_skip ?_
  refine hK59 _ _ ?_
  try clear hK59 K59
  refine wp_seq_k (fun K61 hK61 => ?_)
  refine wp_block ?_
  refine wp_seq_k (fun K62 hK62 => ?_)
  obtain ⟨t38,ht38,h⟩ := bind_some h
  obtain ⟨t42,ht42,h⟩ := bind_some h
  obtain ⟨u46,hu46,h⟩ := bind_some h
  refine wr mixed [v1 11 (fun v0 => own rI 3 (s12.2.2 ++ [(imin t38 t42)]) v0)] hst (fun _ => .q 3 rfl <| .q 6 rfl <| .q 3 rfl <| .o (op_index ud22 tok3 z1 z0 ht38) <| .o (op_load tok3 z0) <| .q 9 rfl <| .q 7 rfl <| .o (op_index ud22 tok3 z1 z0 ht42) <| .o (op_load tok3 z0) <| .o (op_min z4 z0) <| .o (op_buildSl (R := rI) (us := [(imin t38 t42)]) ud22 tok3 (.cons z0 <| .nil _) rfl (leb rfl)) <| .e [] [1] [3] rfl rfl rfl rfl (op_append (R := rI) ud22 tok3 (leb rfl) z10 z0 hu46) <| .ud (f := fun v => tv v) 11 rfl [] rfl rfl (op_assign z0) <| .n) fun n10 a w hst => ?_
  replace hst := hst.to [11,12,14,15,16,17,18,19] [_,_,_,_,_,_,_,_] [_,_,_] rfl rfl
  refine hK62 _ _ ?_
  try clear hK62 K62
  obtain ⟨t50,ht50,h⟩ := bind_some h
  obtain ⟨t54,ht54,h⟩ := bind_some h
  obtain ⟨u58,hu58,h⟩ := bind_some h
  refine wr mixed [v1 11 (fun v0 => own rI 3 (s12.2.1 ++ [(imax t50 t54)]) v0)] hst (fun _ => .q 3 rfl <| .q 6 rfl <| .q 4 rfl <| .o (op_index ud22 tok3 z1 z0 ht50) <| .o (op_load tok3 z0) <| .q 9 rfl <| .q 8 rfl <| .o (op_index ud22 tok3 z1 z0 ht54) <| .o (op_load tok3 z0) <| .o (op_max z4 z0) <| .o (op_buildSl (R := rI) (us := [(imax t50 t54)]) ud22 tok3 (.cons z0 <| .nil _) rfl (leb rfl)) <| .e [] [0] [3] rfl rfl rfl rfl (op_append (R := rI) ud22 tok3 (leb rfl) z10 z0 hu58) <| .ud (f := fun v => tv v) 11 rfl [] rfl rfl (op_assign z0) <| .n) fun n11 a w hst => ?_
  replace hst := hst.to [11,12,13,14,15,16,17,18,19] [_,_,_,_,_,_,_,_,_] [_,_,_] rfl rfl
  refine hK61 _ _ ?_
  try clear hK61 K61
  refine wr mixed [] hst (fun _ => .q 4 rfl <| .o (op_add z0 .k) <| .o (op_assign z0) <| .n) fun n9 a w hst => ?_
  replace hst := hst.to [2,3,4,5,6,7,8,9,10] [_,_,_,_,_,_,_,_,_] [_,_,_] rfl rfl
  exact hK58 _ _ _ (sj h).symm ⟨(n11 11),(n10 11),(hst.pick [0,2,4,5,6,7,8]).selA [2,1,0] rfl⟩
 ·replace h := ite_f b63 h
  refine wp_exit ?_
  exact hJp26 _ v19 v20 _ _ (ho _ (sj h).symm) (hst.pick [2,3,4,5,6])

end Go.Proofs.YtcdccjagknlmpaaGreatDoor
