/- Go functions as Lean functions, and the proofs that they compute them, written by a program. No condition. -/
import Derived.Test.YtcdccjagknlmpaaGreatDoorGenE
namespace Go.Proofs.YtcdccjagknlmpaaGreatDoor
open Go.Sim

/- math/bits.TrailingZeros32 -/
/- math/bits.TrailingZeros64 -/
noncomputable def fbits_TrailingZeros64 (x_ : Int) : Option (Int) := (if (x_ == (0:Int)) = true then (some (64:Int)) else (idx dB64L (ishr .u64 (IntKind.u64.wrap ((iand .u64 x_ (IntKind.u64.wrap (0 - x_))) * (285870213051353865:Int))) (58:Int))).bind fun t11 => (some (IntKind.i64.wrap t11)))
set_option maxRecDepth 100000 in
set_option maxHeartbeats 4000000 in
theorem bits_TrailingZeros64_ok {x_ : Int} {r : Int} (h : fbits_TrailingZeros64 x_ = some r) : FnOk Tryz.prog 93 [tv (.int .u64 x_)] [glo] (fun _ => []) (fun _ => ti r) := by
 unfold fbits_TrailingZeros64 at h
 refine FnOk.enter Tryz.func93 rfl Tryz.ntmps93 (leb rfl) (fun M0 M w0 a hpl hst => ?_)
 replace hst : St M w0 14 [(0,tv (.int .u64 x_))] [glo] a w0 := hst
 refine sr mixed [] hst (fun _ => .o (op_assign .k) <| .n) fun n0 a w hst => ?_
 replace hst := hst.to [1] [_] [_] rfl rfl
 refine wp_seq_k (fun K2 hK2 => ?_)
 refine sr mixed [] hst (fun _ => .q 0 rfl <| .o (op_eql z0 .k) <| .n) fun n1 a w hst => ?_
 replace hst := hst.to [1,2] [_,_] [_] rfl rfl
 refine wt hst (fun b6 => ?_) (fun b6 => ?_)
 ·replace h := ite_t b6 h
  refine sr mixed [] hst (fun _ => .o (op_assign .k) <| .n) fun n2 a w hst => ?_
  replace hst := hst.to [0] [_] [_] rfl rfl
  refine wp_ret ?_
  obtain rfl := sj h
  exact ret_st undef [] hpl hst rfl (.tmp z0 .nil) rfl rfl rfl
 ·replace h := ite_f b6 h
  refine wp_skip ?_
  refine hK2 _ _ ?_
  try clear hK2 K2
  obtain ⟨t11,ht11,h⟩ := bind_some h
  refine sr mixed [] hst (fun _ => .q 1 rfl <| .q 2 rfl <| .o (op_neg z0) <| .o (op_iand z2 z0) <| .o (op_mul z0 .k) <| .o (op_ishr z0 .k (by decide)) <| .u [0] rfl rfl (op_idxAG Tryz.underlying177 tok5 glo_has2 rfl z0 rfl ht11) <| .o (op_load tok5 z0) <| .o (op_conv Tryz.underlying5 ud3 z0) <| .o (op_assign z0) <| .n) fun n3 a w hst => ?_
  replace hst := hst.to [9] [_] [_] rfl rfl
  refine wp_ret ?_
  obtain rfl := sj h
  exact ret_st undef [] hpl hst rfl (.tmp z0 .nil) rfl rfl rfl

/- math/bits.TrailingZeros -/
noncomputable def fbits_TrailingZeros (x_ : Int) : Option (Int) := (fbits_TrailingZeros64 x_).bind fun t7 => (some t7)
set_option maxRecDepth 100000 in
set_option maxHeartbeats 4000000 in
theorem bits_TrailingZeros_ok {x_ : Int} {r : Int} (h : fbits_TrailingZeros x_ = some r) : FnOk Tryz.prog 59 [tv (.int .u64 x_)] [glo] (fun _ => []) (fun _ => ti r) := by
 unfold fbits_TrailingZeros at h
 refine FnOk.enter Tryz.func59 rfl Tryz.ntmps59 (leb rfl) (fun M0 M w0 a hpl hst => ?_)
 replace hst : St M w0 8 [(0,tv (.int .u64 x_))] [glo] a w0 := hst
 refine sr mixed [] hst (fun _ => .o (op_assign .k) <| .n) fun n0 a w hst => ?_
 replace hst := hst.to [1] [_] [_] rfl rfl
 refine wp_seq_k (fun K2 hK2 => ?_)
 refine wp_constF ?_
 refine wp_skip ?_
 refine hK2 _ _ ?_
 try clear hK2 K2
 obtain ⟨t7,ht7,h⟩ := bind_some h
 refine sr mixed [] hst (fun _ => .q 0 rfl <| .u [0] rfl rfl ((op_callF call93 (bits_TrailingZeros64_ok ht7) (.cons (.of z0) <| .nil)).glo) <| .o (op_assign z0) <| .n) fun n2 a w hst => ?_
 replace hst := hst.to [2] [_] [_] rfl rfl
 refine wp_ret ?_
 obtain rfl := sj h
 exact ret_st undef [] hpl hst rfl (.tmp z0 .nil) rfl rfl rfl

/- diorama/counts.some -/
noncomputable def fcounts_some (l_ : (List Scounts_Limit)) (set_ : Int) : Option ((List Scounts_Limit)) := (tailrec (fun (s6 : Int × List Scounts_Limit) => ((if (s6.1 != (0:Int)) = true then (fbits_TrailingZeros s6.1).bind fun t17 => (idx l_ t17).bind fun t18 => (rm (s6.2.length + [t18].length)).bind fun _ => (some (.inl ((iand .u64 s6.1 (IntKind.u64.wrap (s6.1 - (1:Int)))),(s6.2 ++ [t18])))) else (some (.inr s6.2))) : Option ((Int × List Scounts_Limit) ⊕ ((List Scounts_Limit))))) (set_,([] : List Scounts_Limit))).bind fun (p17 : (List Scounts_Limit)) => (some p17)
set_option maxRecDepth 100000 in
set_option maxHeartbeats 4000000 in
theorem counts_some_ok {l_ : (List Scounts_Limit)} {set_ : Int} {r : (List Scounts_Limit)} (h : fcounts_some l_ set_ = some r) : FnOk Tryz.prog 91 [tsl rScounts_Limit l_,tv (.int .u64 set_)] [glo] (fun _ => []) (fun _ => tsl rScounts_Limit r) := by
 unfold fcounts_some at h
 refine FnOk.enter Tryz.func91 rfl Tryz.ntmps91 (leb rfl) (fun M0 M w0 a hpl hst => ?_)
 replace hst : St M w0 23 [(0,tsl rScounts_Limit l_),(1,tv (.int .u64 set_))] [glo] a w0 := hst
 refine sr mixed [] hst (fun _ => .o (op_assign (.nilsl (R := rScounts_Limit))) <| .n) fun n0 a w hst => ?_
 replace hst := hst.to [1,2] [_,_] [_] rfl rfl
 refine sr mixed [] hst (fun _ => .o (op_assign .k) <| .n) fun n1 a w hst => ?_
 replace hst : St _ _ _ [_,_,_] [_,_] _ _ := (hst.pick [0,1,2]).nil (rScounts_Limit) 43
 refine wp_seq_k (fun K4 hK4 => ?_)
 refine sr mixed [] hst (fun _ => .q 2 rfl <| .o (op_assign z0) <| .n) fun n2 a w hst => ?_
 replace hst := hst.to [1,2,3] [_,_,_] [_,_] rfl rfl
 obtain ⟨e7,he7,h⟩ := bind_some h
 have hJp17 : ∀ (p17 : List Scounts_Limit) (v18 : Value) a w,p17 = e7 → St M w0 23 [(5,tv v18)] [own rScounts_Limit 43 p17 v18,glo] a w → K4 a w := by
  intro p17 v18 a w he hst
  subst he
  refine hK4 _ _ ?_
  try clear hK4 K4
  refine sr mixed [] hst (fun _ => .q 0 rfl <| .o (op_assign z0) <| .n) fun n6 a w hst => ?_
  replace hst := hst.to [0,1,2] [_,_,_] [_,_] rfl rfl
  refine wp_ret ?_
  replace hst : St _ _ _ [_] [_] _ _ := (hst.shareO 1 rfl).pick [0]
  obtain rfl := sj h
  exact ret_st undef [] hpl hst rfl (.tmp z0 .nil) rfl rfl rfl
 refine wp_block ?_
 refine wp_loopK _ (fun (s6 : Int × List Scounts_Limit) a w => ∃ v12 : Value,St M w0 23 [(6,tv (.int .u64 s6.1)),(5,tv v12),(0,tsl rScounts_Limit l_)] [own rScounts_Limit 43 s6.2 v12,glo] a w) _ _ he7 ⟨(.slice none 0 0),hst.pick [0,1,2]⟩ ?_
 clear h
 intro s6 o a w K20 hI h ho hK20
 obtain ⟨v12,hst⟩ := hI
 refine wp_seq_k (fun K21 hK21 => ?_)
 refine sr mixed [] hst (fun _ => .q 0 rfl <| .o (op_neq z0 .k) <| .n) fun n3 a w hst => ?_
 replace hst := hst.to [1,2,3,4] [_,_,_,_] [_,_] rfl rfl
 refine wt hst (fun b24 => ?_) (fun b24 => ?_)
 ·replace h := ite_t b24 h
  refine wp_skip ?_
  refine hK21 _ _ ?_
  try clear hK21 K21
  refine wp_seq_k (fun K23 hK23 => ?_)
  refine wp_block ?_
  obtain ⟨t17,ht17,h⟩ := bind_some h
  obtain ⟨t18,ht18,h⟩ := bind_some h
  obtain ⟨u21,hu21,h⟩ := bind_some h
  refine wr mixed [v1 7 (fun v0 => own rScounts_Limit 43 (s6.2 ++ [t18]) v0)] hst (fun _ => .q 2 rfl <| .q 4 rfl <| .q 3 rfl <| .u [1] rfl rfl ((op_callF call59 (bits_TrailingZeros_ok ht17) (.cons (.of z0) <| .nil)).glo) <| .o (op_index ud31 tok43 z2 z0 ht18) <| .o (op_load tok43 z0) <| .o (op_buildSl (R := rScounts_Limit) (us := [t18]) ud31 tok43 (.cons z0 <| .nil _) rfl (leb rfl)) <| .e [] [0] [2] rfl rfl rfl rfl (op_append (R := rScounts_Limit) ud31 tok43 (leb rfl) z6 z0 hu21) <| .ud (f := fun v => tv v) 7 rfl [] rfl rfl (op_assign z0) <| .n) fun n5 a w hst => ?_
  replace hst := hst.to [7,8,10,11] [_,_,_,_] [_,_] rfl rfl
  refine hK23 _ _ ?_
  try clear hK23 K23
  refine wr mixed [] hst (fun _ => .q 2 rfl <| .q 3 rfl <| .o (op_sub z0 .k) <| .o (op_iand z2 z0) <| .o (op_assign z0) <| .n) fun n4 a w hst => ?_
  replace hst := hst.to [4,5,6,7] [_,_,_,_] [_,_] rfl rfl
  exact hK20 _ _ _ (sj h).symm ⟨(n5 7),(hst.pick [0,2,3]).selA [1,0] rfl⟩
 ·replace h := ite_f b24 h
  refine wp_exit ?_
  exact hJp17 _ v12 _ _ (ho _ (sj h).symm) (hst.pick [2])

/- diorama/counts.smallest -/
noncomputable def fcounts_smallestS (self : (List Scounts_Limit) → Int → Int → Int → Option (Int)) (l_ : (List Scounts_Limit)) (set_ : Int) (from_ : Int) (many_ : Int) : Option (Int) := (nn (IntKind.i64.wrap ((64:Int) - (l_.length : Int)))).bind fun _ => (nn from_).bind fun _ => (nn from_).bind fun _ => (fcounts_some l_ (ior .u64 set_ (ishl .u64 (ishr .u64 (ishr .u64 (18446744073709551615:Int) (IntKind.i64.wrap ((64:Int) - (l_.length : Int)))) from_) from_))).bind fun t24 => (fcounts_kept t24).bind fun t25 => (if t25 = true then (some (0:Int)) else (if (many_ == (0:Int)) = true then (fcounts_some l_ set_).bind fun t30 => (fcounts_kept t30).bind fun t31 => (if t31 = true then (some (0:Int)) else (some set_)) else (tailrec (fun (s15 : Int) => ((if (decide ((IntKind.i64.wrap (s15 + many_)) ≤ (l_.length : Int))) = true then (nn s15).bind fun _ => (self l_ (ior .u64 set_ (ishl .u64 (1:Int) s15)) (IntKind.i64.wrap (s15 + (1:Int))) (IntKind.i64.wrap (many_ - (1:Int)))).bind fun t51 => (if (t51 != (0:Int)) = true then (some (.inr (.inr t51))) else (some (.inl (IntKind.i64.wrap (s15 + (1:Int)))))) else (some (.inr (.inl ())))) : Option ((Int) ⊕ ((Unit) ⊕ (Int))))) from_).bind fun (e16 : (Unit) ⊕ (Int)) => (match e16 with | .inl _ => (some (0:Int)) | .inr p34 => (some p34))))
set_option maxRecDepth 100000 in
set_option maxHeartbeats 4000000 in
theorem counts_smallest_okS {self : (List Scounts_Limit) → Int → Int → Int → Option (Int)} (hself : ∀ (l_ : (List Scounts_Limit)) (set_ : Int) (from_ : Int) (many_ : Int) (r : Int),self l_ set_ from_ many_ = some r → FnOk Tryz.prog 58 [tsl rScounts_Limit l_,tv (.int .u64 set_),ti from_,ti many_] [glo] (fun _ => []) (fun _ => tv (.int .u64 r))) {l_ : (List Scounts_Limit)} {set_ : Int} {from_ : Int} {many_ : Int} {r : Int} (h : fcounts_smallestS self l_ set_ from_ many_ = some r) : FnOk Tryz.prog 58 [tsl rScounts_Limit l_,tv (.int .u64 set_),ti from_,ti many_] [glo] (fun _ => []) (fun _ => tv (.int .u64 r)) := by
 unfold fcounts_smallestS at h
 refine FnOk.enter Tryz.func58 rfl Tryz.ntmps58 (leb rfl) (fun M0 M w0 a hpl hst => ?_)
 replace hst : St M w0 55 [(0,tsl rScounts_Limit l_),(1,tv (.int .u64 set_)),(2,ti from_),(3,ti many_)] [glo] a w0 := hst
 refine sr mixed [] hst (fun _ => .o (op_assign .k) <| .n) fun n0 a w hst => ?_
 replace hst := hst.to [1,2,3,4] [_,_,_,_] [_] rfl rfl
 refine wp_seq_k (fun K2 hK2 => ?_)
 obtain ⟨u15,hu15,h⟩ := bind_some h
 obtain ⟨u17,hu17,h⟩ := bind_some h
 obtain ⟨u19,hu19,h⟩ := bind_some h
 refine wr mixed [] hst (fun _ => .q 0 rfl <| .o (op_len ud31 z0) <| .o (op_sub .k z0) <| .o (op_ishr .k z0 (nn_le hu15)) <| .q 6 rfl <| .o (op_ishr z1 z0 (nn_le hu17)) <| .q 8 rfl <| .o (op_ishl z1 z0 (nn_le hu19)) <| .o (op_assign z0) <| .n) fun n1 a w hst => ?_
 replace hst := hst.to [8,9,10,11,12] [_,_,_,_,_] [_] rfl rfl
 refine hK2 _ _ ?_
 try clear hK2 K2
 refine wp_seq_k (fun K3 hK3 => ?_)
 obtain ⟨t24,ht24,h⟩ := bind_some h
 obtain ⟨t25,ht25,h⟩ := bind_some h
 refine sr mixed [] hst (fun _ => .q 1 rfl <| .q 3 rfl <| .q 2 rfl <| .o (op_ior z1 z0) <| .u [0] rfl rfl ((op_callF call91 (counts_some_ok ht24) (.cons (.of z3) <| .cons (.of z0) <| .nil)).glo) <| .o (op_callF call57 (counts_kept_ok ht25) (.cons (.of z0) <| .nil)) <| .n) fun n2 a w hst => ?_
 replace hst := hst.to [5,7,8,9,10] [_,_,_,_,_] [_] rfl rfl
 refine wt hst (fun b46 => ?_) (fun b46 => ?_)
 ·replace h := ite_t b46 h
  refine sr mixed [] hst (fun _ => .o (op_assign .k) <| .n) fun n3 a w hst => ?_
  replace hst := hst.to [0] [_] [_] rfl rfl
  refine wp_ret ?_
  obtain rfl := sj h
  exact ret_st undef [] hpl hst rfl (.tmp z0 .nil) rfl rfl rfl
 ·replace h := ite_f b46 h
  refine wp_skip ?_
  refine hK3 _ _ ?_
  try clear hK3 K3
  refine wp_seq_k (fun K6 hK6 => ?_)
  refine sr mixed [] hst (fun _ => .q 4 rfl <| .o (op_eql z0 .k) <| .n) fun n4 a w hst => ?_
  replace hst := hst.to [1,3,4,5,6] [_,_,_,_,_] [_] rfl rfl
  refine wt hst (fun b45 => ?_) (fun b45 => ?_)
  ·replace h := ite_t b45 h
   refine wp_seq_k (fun K8 hK8 => ?_)
   obtain ⟨t30,ht30,h⟩ := bind_some h
   obtain ⟨t31,ht31,h⟩ := bind_some h
   refine sr mixed [] hst (fun _ => .q 1 rfl <| .q 3 rfl <| .u [0] rfl rfl ((op_callF call91 (counts_some_ok ht30) (.cons (.of z1) <| .cons (.of z0) <| .nil)).glo) <| .o (op_callF call57 (counts_kept_ok ht31) (.cons (.of z0) <| .nil)) <| .n) fun n5 a w hst => ?_
   replace hst := hst.to [3,6] [_,_] [_] rfl rfl
   refine wt hst (fun b12 => ?_) (fun b12 => ?_)
   ·replace h := ite_t b12 h
    refine sr mixed [] hst (fun _ => .o (op_assign .k) <| .n) fun n6 a w hst => ?_
    replace hst := hst.to [0] [_] [_] rfl rfl
    refine wp_ret ?_
    obtain rfl := sj h
    exact ret_st undef [] hpl hst rfl (.tmp z0 .nil) rfl rfl rfl
   ·replace h := ite_f b12 h
    refine wp_skip ?_
    refine hK8 _ _ ?_
    try clear hK8 K8
    refine sr mixed [] hst (fun _ => .q 1 rfl <| .o (op_assign z0) <| .n) fun n7 a w hst => ?_
    replace hst := hst.to [1] [_] [_] rfl rfl
    refine wp_ret ?_
    obtain rfl := sj h
    exact ret_st undef [] hpl hst rfl (.tmp z0 .nil) rfl rfl rfl
  ·replace h := ite_f b45 h
   refine wp_skip ?_
   refine hK6 _ _ ?_
   try clear hK6 K6
   refine wp_seq_k (fun K13 hK13 => ?_)
   refine sr mixed [] hst (fun _ => .q 3 rfl <| .o (op_assign z0) <| .n) fun n8 a w hst => ?_
   replace hst := hst.to [1,3,4,6] [_,_,_,_] [_] rfl rfl
   obtain ⟨e16,he16,h⟩ := bind_some h
   have hJp33 : ∀ (p33 : Unit) a w,(.inl p33) = e16 → St M w0 55 [] [glo] a w → K13 a w := by
    intro p33 a w he hst
    subst he
    simp only at h
    refine hK13 _ _ ?_
    try clear hK13 K13
    refine sr mixed [] hst (fun _ => .o (op_assign .k) <| .n) fun n14 a w hst => ?_
    replace hst := hst.to [0] [_] [_] rfl rfl
    refine wp_ret ?_
    obtain rfl := sj h
    exact ret_st undef [] hpl hst rfl (.tmp z0 .nil) rfl rfl rfl
   have hJp34 : ∀ (p34 : Int) a w,(.inr p34) = e16 → St M w0 55 [(8,tv (.int .u64 p34))] [glo] a w → Ret Tryz.prog Tryz.f58 M0 [glo] w0 (fun _ => []) (fun _ => tv (.int .u64 r)) .ret a w := by
    intro p34 a w he hst
    subst he
    simp only at h
    obtain rfl := sj h
    exact ret_st undef [] hpl hst rfl (.tmp z0 .nil) rfl rfl rfl
   refine wp_block ?_
   refine wp_loopK _ (fun (s15 : Int) a w => St M w0 55 [(10,ti s15),(0,tsl rScounts_Limit l_),(1,tv (.int .u64 set_)),(3,ti many_)] [glo] a w) _ _ he16 (hst.pick [0,1,2,3]) ?_
   clear h
   intro s15 o a w K36 hI h ho hK36
   have hst := hI
   clear hI
   refine wp_seq_k (fun K37 hK37 => ?_)
   refine sr mixed [] hst (fun _ => .q 0 rfl <| .q 4 rfl <| .o (op_add z1 z0) <| .q 4 rfl <| .o (op_len ud31 z0) <| .o (op_leq z2 z0) <| .n) fun n9 a w hst => ?_
   replace hst := hst.to [5,6,7,8,9] [_,_,_,_,_] [_] rfl rfl
   refine wt hst (fun b44 => ?_) (fun b44 => ?_)
   ·replace h := ite_t b44 h
    refine wp_skip ?_
    refine hK37 _ _ ?_
    try clear hK37 K37
    refine wp_seq_k (fun K39 hK39 => ?_)
    refine wp_block ?_
    refine wp_seq_k (fun K40 hK40 => ?_)
    obtain ⟨u45,hu45,h⟩ := bind_some h
    obtain ⟨t51,ht51,h⟩ := bind_some h
    refine wr mixed [] hst (fun _ => .q 2 rfl <| .q 4 rfl <| .q 3 rfl <| .o (op_ishl .k z0 (nn_le hu45)) <| .o (op_ior z2 z0) <| .q 6 rfl <| .o (op_add z0 .k) <| .q 11 rfl <| .o (op_sub z0 .k) <| .u [0] rfl rfl ((op_callF call58 (hself _ _ _ _ _ ht51) (.cons (.of z8) <| .cons (.of z4) <| .cons (.of z2) <| .cons (.of z0) <| .nil)).glo) <| .o (op_assign z0) <| .n) fun n11 a w hst => ?_
    replace hst := hst.to [10,12,13,14,15] [_,_,_,_,_] [_] rfl rfl
    refine hK40 _ _ ?_
    try clear hK40 K40
    refine sr mixed [] hst (fun _ => .q 0 rfl <| .o (op_neq z0 .k) <| .n) fun n12 a w hst => ?_
    replace hst := hst.to [1,2,3,4,5,6] [_,_,_,_,_,_] [_] rfl rfl
    refine wt hst (fun b43 => ?_) (fun b43 => ?_)
    ·replace h := ite_t b43 h
     refine sr mixed [] hst (fun _ => .q 1 rfl <| .o (op_assign z0) <| .n) fun n13 a w hst => ?_
     replace hst := hst.to [1] [_] [_] rfl rfl
     refine wp_ret ?_
     exact hJp34 _ _ _ (ho _ (sj h).symm) (hst.pick [0])
    ·replace h := ite_f b43 h
     refine wp_skip ?_
     refine hK39 _ _ ?_
     try clear hK39 K39
     refine wr mixed [] hst (fun _ => .q 2 rfl <| .o (op_add z0 .k) <| .o (op_assign z0) <| .n) fun n10 a w hst => ?_
     replace hst := hst.to [2,5,6,7] [_,_,_,_] [_] rfl rfl
     exact hK36 _ _ _ (sj h).symm (hst.pick [0,1,2,3])
   ·replace h := ite_f b44 h
    refine wp_exit ?_
    exact hJp33 _ _ _ (ho _ (sj h).symm) (hst.pick [])
noncomputable def gcounts_smallestN : Nat → (List Scounts_Limit) → Int → Int → Int → Option (Int)
 | 0 => fun _ _ _ _ => none
 | n + 1 => fcounts_smallestS (gcounts_smallestN n)
theorem gcounts_smallestN_ok : ∀ (n : Nat) (l_ : (List Scounts_Limit)) (set_ : Int) (from_ : Int) (many_ : Int) (r : Int),gcounts_smallestN n l_ set_ from_ many_ = some r → FnOk Tryz.prog 58 [tsl rScounts_Limit l_,tv (.int .u64 set_),ti from_,ti many_] [glo] (fun _ => []) (fun _ => tv (.int .u64 r))
 | 0,_,_,_,_,r,h => by cases h
 | n + 1,l_,set_,from_,many_,r,h => counts_smallest_okS (fun l_ set_ from_ many_ r h => gcounts_smallestN_ok n l_ set_ from_ many_ r h) h
noncomputable def fcounts_smallest (l_ : (List Scounts_Limit)) (set_ : Int) (from_ : Int) (many_ : Int) : Option (Int) := gcounts_smallestN (many_.natAbs + 2) l_ set_ from_ many_
theorem counts_smallest_ok {l_ : (List Scounts_Limit)} {set_ : Int} {from_ : Int} {many_ : Int} {r : Int} (h : fcounts_smallest l_ set_ from_ many_ = some r) : FnOk Tryz.prog 58 [tsl rScounts_Limit l_,tv (.int .u64 set_),ti from_,ti many_] [glo] (fun _ => []) (fun _ => tv (.int .u64 r)) := gcounts_smallestN_ok _ _ _ _ _ _ h

/- diorama/counts.Clash -/
noncomputable def fcounts_Clash (n_ : Int) (l_ : (List Scounts_Limit)) : Option ((List Int) × Int) := (opt (((decide (n_ < (1:Int))) || (decide (n_ > (6:Int)))) == false) (fslices_ContainsFunc_Limit l_ (fun x0 => fcounts_Clashq1 x0 n_)) default).bind fun t19 => (if (((decide (n_ < (1:Int))) || (decide (n_ > (6:Int)))) || t19) = true then (some (([] : List Int),(1:Int))) else (if (decide ((l_.length : Int) > (24:Int))) = true then (some (([] : List Int),(4:Int))) else (fcounts_kept l_).bind fun t27 => (if t27 = true then (some (([] : List Int),(6:Int))) else (tailrec (fun (s12 : Int × Int) => ((if (s12.2 == (0:Int)) = true then (fcounts_smallest l_ (0:Int) (0:Int) s12.1).bind fun t34 => (some (.inl ((IntKind.i64.wrap (s12.1 + (1:Int))),t34))) else (some (.inr s12.2))) : Option ((Int × Int) ⊕ ((Int))))) ((1:Int),(0:Int))).bind fun (p22 : (Int)) => (tailrec (fun (s26 : Int × List Int) => ((if (s26.1 != (0:Int)) = true then (fbits_TrailingZeros s26.1).bind fun t43 => (rm (s26.2.length + [t43].length)).bind fun _ => (some (.inl ((iand .u64 s26.1 (IntKind.u64.wrap (s26.1 - (1:Int)))),(s26.2 ++ [t43])))) else (some (.inr s26.2))) : Option ((Int × List Int) ⊕ ((List Int))))) (p22,([] : List Int))).bind fun (p37 : (List Int)) => (some (p37,(0:Int))))))
set_option maxRecDepth 100000 in
set_option maxHeartbeats 4000000 in
theorem counts_Clash_ok {n_ : Int} {l_ : (List Scounts_Limit)} {r : (List Int) × Int} (h : fcounts_Clash n_ l_ = some r) : FnOk Tryz.prog 27 [ti n_,tsl rScounts_Limit l_] [glo] (fun _ => []) (fun _ => ttup [tsl rI r.1,ti r.2]) := by
 unfold fcounts_Clash at h
 refine FnOk.enter Tryz.func27 rfl Tryz.ntmps27 (leb rfl) (fun M0 M w0 a hpl hst => ?_)
 replace hst : St M w0 47 [(0,ti n_),(1,tsl rScounts_Limit l_)] [glo] a w0 := hst
 refine sr mixed [] hst (fun _ => .o (op_boxR (R := rI) (u := n_) z0) <| .o (op_assign (.nilsl (R := rI))) <| .o (op_assign .k) <| .n) fun n0 a w hst => ?_
 replace hst := hst.to [0,4] [_,_] [_] rfl rfl
 refine wp_seq_k (fun K2 hK2 => ?_)
 refine wp_block ?_
 obtain ⟨t19,ht19,h⟩ := bind_some h
 refine sr mixed [] hst (fun _ => .o (op_load tok3 z0) <| .o (op_lss z0 .k) <| .q 0 rfl <| .g rfl rfl (.b 0 rfl) (fun _ => op_load tok3 z3) <| .g rfl rfl (.b 1 rfl) (fun hc => op_gtr (.cond z0 hc) .k) <| .o (op_or z2 (fun hp => (.cond z0 (beqF hp)))) <| .q 0 rfl <| .g rfl rfl (.b 0 rfl) (fun _ => op_move z8) <| .g rfl rfl (.b 1 rfl) (fun _ => op_clo (.cons z8 <| .nil)) <| .g rfl rfl (.b 2 rfl) (fun hc => op_callF call55 (slices_ContainsFunc_Limit_ok (opt_t ht19 hc)) (.cons (.of (.cond z1 hc)) <| .cons (.of (Fct.weak (.cond z0 hc) (tfn_of call56 (fun _ _ hq => counts_Clashq1_ok hq)))) <| .nil)) <| .o (op_or z3 (fun hp => (.cond z0 (beqF hp)))) <| .o (op_assign z0) <| .n) fun n1 a w hst => ?_
 replace hst := hst.to [11,13] [_,_] [_] rfl rfl
 refine wt hst (fun b52 => ?_) (fun b52 => ?_)
 ·replace h := ite_t b52 h
  refine sr mixed [] hst (fun _ => .o (op_assign (.nilsl (R := rI))) <| .o (op_assign .k) <| .n) fun n2 a w hst => ?_
  replace hst := hst.to [0,1] [_,_] [_] rfl rfl
  refine wp_ret ?_
  obtain rfl := sj h
  exact ret_st undef [] hpl hst rfl (.tmp z0 (.tmp z1 .nil)) rfl rfl rfl
 ·replace h := ite_f b52 h
  refine sr mixed [] hst (fun _ => .q 1 rfl <| .o (op_len ud31 z0) <| .o (op_gtr z0 .k) <| .o (op_assign z0) <| .n) fun n3 a w hst => ?_
  replace hst := hst.to [3,5] [_,_] [_] rfl rfl
  refine wt hst (fun b51 => ?_) (fun b51 => ?_)
  ·replace h := ite_t b51 h
   refine sr mixed [] hst (fun _ => .o (op_assign (.nilsl (R := rI))) <| .o (op_assign .k) <| .n) fun n4 a w hst => ?_
   replace hst := hst.to [0,1] [_,_] [_] rfl rfl
   refine wp_ret ?_
   obtain rfl := sj h
   exact ret_st undef [] hpl hst rfl (.tmp z0 (.tmp z1 .nil)) rfl rfl rfl
  ·replace h := ite_f b51 h
   obtain ⟨t27,ht27,h⟩ := bind_some h
   refine sr mixed [] hst (fun _ => .q 1 rfl <| .o (op_callF call57 (counts_kept_ok ht27) (.cons (.of z0) <| .nil)) <| .o (op_assign z0) <| .n) fun n5 a w hst => ?_
   replace hst := hst.to [2,4] [_,_] [_] rfl rfl
   refine wt hst (fun b50 => ?_) (fun b50 => ?_)
   ·replace h := ite_t b50 h
    refine sr mixed [] hst (fun _ => .o (op_assign (.nilsl (R := rI))) <| .o (op_assign .k) <| .n) fun n6 a w hst => ?_
    replace hst := hst.to [0,1] [_,_] [_] rfl rfl
    refine wp_ret ?_
    obtain rfl := sj h
    exact ret_st undef [] hpl hst rfl (.tmp z0 (.tmp z1 .nil)) rfl rfl rfl
   ·replace h := ite_f b50 h
    refine wp_skip ?_
    refine hK2 _ _ ?_
    try clear hK2 K2
    refine sr mixed [] hst (fun _ => .o (op_assign .k) <| .n) fun n7 a w hst => ?_
    replace hst := hst.to [0,2] [_,_] [_] rfl rfl
    refine wp_seq_k (fun K10 hK10 => ?_)
    refine sr mixed [] hst (fun _ => .o (op_assign .k) <| .n) fun n8 a w hst => ?_
    replace hst := hst.to [0,1,2] [_,_,_] [_] rfl rfl
    obtain ⟨e13,he13,h⟩ := bind_some h
    have hJp22 : ∀ (p22 : Int) a w,p22 = e13 → St M w0 47 [(6,tv (.int .u64 p22))] [glo] a w → K10 a w := by
     intro p22 a w he hst
     subst he
     refine hK10 _ _ ?_
     try clear hK10 K10
     refine sr mixed [] hst (fun _ => .o (op_assign .k) <| .n) fun n12 a w hst => ?_
     replace hst : St _ _ _ [_,_] [_,_] _ _ := (hst.pick [0,1]).nil (rI) 3
     refine wp_seq_k (fun K25 hK25 => ?_)
     obtain ⟨e27,he27,h⟩ := bind_some h
     have hJp37 : ∀ (p37 : List Int) (v38 : Value) a w,p37 = e27 → St M w0 47 [(8,tv v38)] [own rI 3 p37 v38,glo] a w → K25 a w := by
      intro p37 v38 a w he hst
      subst he
      refine hK25 _ _ ?_
      try clear hK25 K25
      refine sr mixed [] hst (fun _ => .q 0 rfl <| .o (op_assign z0) <| .o (op_assign .k) <| .n) fun n16 a w hst => ?_
      replace hst := hst.to [0,1,2,3] [_,_,_,_] [_,_] rfl rfl
      refine wp_ret ?_
      replace hst : St _ _ _ [_,_] [_] _ _ := (hst.shareO 1 rfl).pick [0,3]
      obtain rfl := sj h
      exact ret_st undef [] hpl hst rfl (.tmp z0 (.tmp z1 .nil)) rfl rfl rfl
     refine wp_block ?_
     refine wp_loopK _ (fun (s26 : Int × List Int) a w => ∃ v32 : Value,St M w0 47 [(8,tv v32),(6,tv (.int .u64 s26.1))] [own rI 3 s26.2 v32,glo] a w) _ _ he27 ⟨(.slice none 0 0),hst.pick [0,1]⟩ ?_
     clear h
     intro s26 o a w K40 hI h ho hK40
     obtain ⟨v32,hst⟩ := hI
     refine wp_seq_k (fun K41 hK41 => ?_)
     refine sr mixed [] hst (fun _ => .q 1 rfl <| .o (op_neq z0 .k) <| .n) fun n13 a w hst => ?_
     replace hst := hst.to [1,2,3] [_,_,_] [_,_] rfl rfl
     refine wt hst (fun b44 => ?_) (fun b44 => ?_)
     ·replace h := ite_t b44 h
      refine wp_skip ?_
      refine hK41 _ _ ?_
      try clear hK41 K41
      refine wp_seq_k (fun K43 hK43 => ?_)
      refine wp_block ?_
      obtain ⟨t43,ht43,h⟩ := bind_some h
      obtain ⟨u45,hu45,h⟩ := bind_some h
      refine wr mixed [v1 4 (fun v0 => own rI 3 (s26.2 ++ [t43]) v0)] hst (fun _ => .q 1 rfl <| .q 3 rfl <| .u [1] rfl rfl ((op_callF call59 (bits_TrailingZeros_ok ht43) (.cons (.of z0) <| .nil)).glo) <| .o (op_buildSl (R := rI) (us := [t43]) ud22 tok3 (.cons z0 <| .nil _) rfl (leb rfl)) <| .e [] [0] [2] rfl rfl rfl rfl (op_append (R := rI) ud22 tok3 (leb rfl) z3 z0 hu45) <| .ud (f := fun v => tv v) 4 rfl [] rfl rfl (op_assign z0) <| .n) fun n15 a w hst => ?_
      replace hst := hst.to [4,5,7] [_,_,_] [_,_] rfl rfl
      refine hK43 _ _ ?_
      try clear hK43 K43
      refine wr mixed [] hst (fun _ => .q 2 rfl <| .q 3 rfl <| .o (op_sub z0 .k) <| .o (op_iand z2 z0) <| .o (op_assign z0) <| .n) fun n14 a w hst => ?_
      replace hst := hst.to [4,5,6] [_,_,_] [_,_] rfl rfl
      exact hK40 _ _ _ (sj h).symm ⟨(n15 4),(hst.pick [2,0]).selA [1,0] rfl⟩
     ·replace h := ite_f b44 h
      refine wp_exit ?_
      exact hJp37 _ v32 _ _ (ho _ (sj h).symm) (hst.pick [1])
    refine wp_block ?_
    refine wp_loopK _ (fun (s12 : Int × Int) a w => St M w0 47 [(7,ti s12.1),(6,tv (.int .u64 s12.2)),(1,tsl rScounts_Limit l_)] [glo] a w) _ _ he13 (hst.pick [0,1,2]) ?_
    clear h
    intro s12 o a w K45 hI h ho hK45
    have hst := hI
    clear hI
    refine wp_seq_k (fun K46 hK46 => ?_)
    refine sr mixed [] hst (fun _ => .q 1 rfl <| .o (op_eql z0 .k) <| .n) fun n9 a w hst => ?_
    replace hst := hst.to [1,2,3,4] [_,_,_,_] [_] rfl rfl
    refine wt hst (fun b49 => ?_) (fun b49 => ?_)
    ·replace h := ite_t b49 h
     refine wp_skip ?_
     refine hK46 _ _ ?_
     try clear hK46 K46
     refine wp_seq_k (fun K48 hK48 => ?_)
     refine wp_block ?_
     obtain ⟨t34,ht34,h⟩ := bind_some h
     refine wr mixed [] hst (fun _ => .q 3 rfl <| .q 2 rfl <| .u [0] rfl rfl ((op_callF call58 (counts_smallest_ok ht34) (.cons (.of z1) <| .cons (.of .k) <| .cons (.of .k) <| .cons (.of z0) <| .nil)).glo) <| .o (op_assign z0) <| .n) fun n11 a w hst => ?_
     replace hst := hst.to [3,5,6] [_,_,_] [_] rfl rfl
     refine hK48 _ _ ?_
     try clear hK48 K48
     refine wr mixed [] hst (fun _ => .q 1 rfl <| .o (op_add z0 .k) <| .o (op_assign z0) <| .n) fun n10 a w hst => ?_
     replace hst := hst.to [2,3,4] [_,_,_] [_] rfl rfl
     exact hK45 _ _ _ (sj h).symm (hst.pick [0,1,2])
    ·replace h := ite_f b49 h
     refine wp_exit ?_
     exact hJp22 _ _ _ (ho _ (sj h).symm) (hst.pick [2])

/- diorama/dioramaref01.SameInts -/
noncomputable def fref01_SameInts (a_ : (List Int)) (b_ : (List Int)) : Option (Bool) := (if ((a_.length : Int) != (b_.length : Int)) = true then (some false) else (tailrec (fun (s7 : Int) => ((if (decide (s7 < (a_.length : Int))) = true then (idx a_ s7).bind fun t19 => (idx b_ s7).bind fun t23 => (if (t19 != t23) = true then (some (.inr (.inr false))) else (some (.inl (IntKind.i64.wrap (s7 + (1:Int)))))) else (some (.inr (.inl ())))) : Option ((Int) ⊕ ((Unit) ⊕ (Bool))))) (0:Int)).bind fun (e8 : (Unit) ⊕ (Bool)) => (match e8 with | .inl _ => (some true) | .inr p24 => (some p24)))
set_option maxRecDepth 100000 in
set_option maxHeartbeats 4000000 in
theorem ref01_SameInts_ok {a_ : (List Int)} {b_ : (List Int)} {r : Bool} (h : fref01_SameInts a_ b_ = some r) : FnOk Tryz.prog 25 [tsl rI a_,tsl rI b_] [] (fun _ => []) (fun _ => tb r) := by
 unfold fref01_SameInts at h
 refine FnOk.enter Tryz.func25 rfl Tryz.ntmps25 (leb rfl) (fun M0 M w0 a hpl hst => ?_)
 replace hst : St M w0 26 [(0,tsl rI a_),(1,tsl rI b_)] [] a w0 := hst
 refine sr mixed [] hst (fun _ => .o (op_assign .k) <| .n) fun n0 a w hst => ?_
 replace hst := hst.to [1,2] [_,_] [] rfl rfl
 refine wp_seq_k (fun K2 hK2 => ?_)
 refine sr mixed [] hst (fun _ => .q 0 rfl <| .o (op_len ud22 z0) <| .q 3 rfl <| .o (op_len ud22 z0) <| .o (op_neq z2 z0) <| .n) fun n1 a w hst => ?_
 replace hst := hst.to [4,5,6] [_,_,_] [] rfl rfl
 refine wt hst (fun b34 => ?_) (fun b34 => ?_)
 ·replace h := ite_t b34 h
  refine sr mixed [] hst (fun _ => .o (op_assign .k) <| .n) fun n2 a w hst => ?_
  replace hst := hst.to [0] [_] [] rfl rfl
  refine wp_ret ?_
  obtain rfl := sj h
  exact ret_st undef [] hpl hst rfl (.tmp z0 .nil) rfl rfl rfl
 ·replace h := ite_f b34 h
  refine wp_skip ?_
  refine hK2 _ _ ?_
  try clear hK2 K2
  refine wp_seq_k (fun K5 hK5 => ?_)
  refine sr mixed [] hst (fun _ => .o (op_assign .k) <| .n) fun n3 a w hst => ?_
  replace hst := hst.to [0,2,3] [_,_,_] [] rfl rfl
  obtain ⟨e8,he8,h⟩ := bind_some h
  have hJp23 : ∀ (p23 : Unit) a w,(.inl p23) = e8 → St M w0 26 [] [] a w → K5 a w := by
   intro p23 a w he hst
   subst he
   simp only at h
   refine hK5 _ _ ?_
   try clear hK5 K5
   refine sr mixed [] hst (fun _ => .o (op_assign .k) <| .n) fun n8 a w hst => ?_
   replace hst := hst.to [0] [_] [] rfl rfl
   refine wp_ret ?_
   obtain rfl := sj h
   exact ret_st undef [] hpl hst rfl (.tmp z0 .nil) rfl rfl rfl
  have hJp24 : ∀ (p24 : Bool) a w,(.inr p24) = e8 → St M w0 26 [(4,tb p24)] [] a w → Ret Tryz.prog Tryz.f25 M0 [] w0 (fun _ => []) (fun _ => tb r) .ret a w := by
   intro p24 a w he hst
   subst he
   simp only at h
   obtain rfl := sj h
   exact ret_st undef [] hpl hst rfl (.tmp z0 .nil) rfl rfl rfl
  refine wp_block ?_
  refine wp_loopK _ (fun (s7 : Int) a w => St M w0 26 [(5,ti s7),(0,tsl rI a_),(1,tsl rI b_)] [] a w) _ _ he8 (hst.pick [0,1,2]) ?_
  clear h
  intro s7 o a w K26 hI h ho hK26
  have hst := hI
  clear hI
  refine wp_seq_k (fun K27 hK27 => ?_)
  refine sr mixed [] hst (fun _ => .q 0 rfl <| .q 2 rfl <| .o (op_len ud22 z0) <| .o (op_lss z2 z0) <| .n) fun n4 a w hst => ?_
  replace hst := hst.to [3,4,5,6] [_,_,_,_] [] rfl rfl
  refine wt hst (fun b33 => ?_) (fun b33 => ?_)
  ·replace h := ite_t b33 h
   refine wp_skip ?_
   refine hK27 _ _ ?_
   try clear hK27 K27
   refine wp_seq_k (fun K29 hK29 => ?_)
   refine wp_block ?_
   obtain ⟨t19,ht19,h⟩ := bind_some h
   obtain ⟨t23,ht23,h⟩ := bind_some h
   refine sr mixed [] hst (fun _ => .q 2 rfl <| .q 2 rfl <| .o (op_index ud22 tok3 z1 z0 ht19) <| .o (op_load tok3 z0) <| .q 7 rfl <| .q 6 rfl <| .o (op_index ud22 tok3 z1 z0 ht23) <| .o (op_load tok3 z0) <| .o (op_neq z4 z0) <| .n) fun n6 a w hst => ?_
   replace hst := hst.to [8,10,11,12] [_,_,_,_] [] rfl rfl
   refine wt hst (fun b32 => ?_) (fun b32 => ?_)
   ·replace h := ite_t b32 h
    refine sr mixed [] hst (fun _ => .o (op_assign .k) <| .n) fun n7 a w hst => ?_
    replace hst := hst.to [0] [_] [] rfl rfl
    refine wp_ret ?_
    exact hJp24 _ _ _ (ho _ (sj h).symm) (hst.pick [0])
   ·replace h := ite_f b32 h
    refine wp_skip ?_
    refine hK29 _ _ ?_
    try clear hK29 K29
    refine wr mixed [] hst (fun _ => .q 1 rfl <| .o (op_add z0 .k) <| .o (op_assign z0) <| .n) fun n5 a w hst => ?_
    replace hst := hst.to [2,4,5] [_,_,_] [] rfl rfl
    exact hK26 _ _ _ (sj h).symm (hst.pick [0,1,2])
  ·replace h := ite_f b33 h
   refine wp_exit ?_
   exact hJp23 _ _ _ (ho _ (sj h).symm) (hst.pick [])

/- diorama/dioramalaw13.lives -/
noncomputable def flaw13_lives  : Option (Bool) := (flaw13_example (3:Int)).bind fun t13 => (fcounts_Plan t13 [(2:Int),(9:Int)]).bind fun t15 => (flaw13_example (3:Int)).bind fun t19 => (fcounts_Plan t19 [(1:Int),(9:Int)]).bind fun t21 => (flaw13_example (9:Int)).bind fun t25 => (fcounts_Plan t25 [(2:Int),(9:Int)]).bind fun t27 => (flaw13_example (9:Int)).bind fun t31 => (fcounts_Limits t31).bind fun t32 => (if ((((((t15.2 != (0:Int)) || (t21.2 != (0:Int))) || (t27.2 != (14:Int))) || (t32.2.2 != (0:Int))) || ((t32.1.length : Int) != (6:Int))) || ((t32.2.1.length : Int) != (6:Int))) = true then (some false) else (fcounts_Clash (2:Int) t32.1).bind fun t62 => (opt ((t62.2 != (0:Int)) == false) (fref01_SameInts t62.1 [(1:Int),(2:Int),(5:Int)]) default).bind fun t70 => (opt (((t62.2 != (0:Int)) || (!t70)) == false) (idx t32.2.1 (1:Int)) default).bind fun t75 => (opt ((((t62.2 != (0:Int)) || (!t70)) || (t75 != ([97,32,109,111,115,116] : Str))) == false) (idx t32.2.1 (2:Int)) default).bind fun t81 => (opt (((((t62.2 != (0:Int)) || (!t70)) || (t75 != ([97,32,109,111,115,116] : Str))) || (t81 != ([98,32,108,101,97,115,116] : Str))) == false) (idx t32.2.1 (5:Int)) default).bind fun t87 => (if (((((t62.2 != (0:Int)) || (!t70)) || (t75 != ([97,32,109,111,115,116] : Str))) || (t81 != ([98,32,108,101,97,115,116] : Str))) || (t87 != ([98,46,111,102,32,109,111,115,116] : Str))) = true then (some false) else (fref01_SameInts t15.1 [(2:Int),(8:Int)]).bind fun t93 => (opt (t93 == true) (fref01_SameInts t21.1 [(2:Int),(8:Int)]) default).bind fun t97 => (opt ((t93 && t97) == true) (idx t32.1 (5:Int)) default).bind fun t101 => (opt ((t93 && t97) == true) (fcounts_Holds t101 [(2:Int),(9:Int)]) default).bind fun t104 => (opt (((t93 && t97) && (!t104)) == true) (idx t32.1 (5:Int)) default).bind fun t109 => (opt (((t93 && t97) && (!t104)) == true) (fcounts_Holds t109 [(2:Int),(8:Int)]) default).bind fun t112 => (some (((t93 && t97) && (!t104)) && t112))))
set_option maxRecDepth 100000 in
set_option maxHeartbeats 4000000 in
theorem law13_lives_ok {r : Bool} (h : flaw13_lives  = some r) : FnOk Tryz.prog 16 [] [glo] (fun _ => []) (fun _ => tb r) := by
 unfold flaw13_lives at h
 refine FnOk.enter Tryz.func16 rfl Tryz.ntmps16 (leb rfl) (fun M0 M w0 a hpl hst => ?_)
 replace hst : St M w0 114 [] [glo] a w0 := hst
 refine sr mixed [] hst (fun _ => .o (op_assign .k) <| .n) fun n0 a w hst => ?_
 replace hst := hst.to [] [] [_] rfl rfl
 obtain ⟨t13,ht13,h⟩ := bind_some h
 obtain ⟨t15,ht15,h⟩ := bind_some h
 refine sr mixed [] hst (fun _ => .o (op_callF call26 (law13_example_ok ht13) (.cons (.of .k) <| .nil)) <| .o (op_buildSl (R := rI) (us := [(2:Int),(9:Int)]) ud22 tok3 (.cons .k <| .cons .k <| .nil _) rfl (leb rfl)) <| .u [0] rfl rfl ((op_callF call23 (counts_Plan_ok ht15) (.cons (.of z1) <| .cons (.of z0) <| .nil)).glo) <| .q 0 rfl <| .o (op_extract z0 rfl) <| .o (op_extract z1 rfl) <| .o (op_assign z1) <| .o (op_assign z1) <| .n) fun n1 a w hst => ?_
 replace hst := hst.to [6,7] [_,_] [_] rfl rfl
 obtain ⟨t19,ht19,h⟩ := bind_some h
 obtain ⟨t21,ht21,h⟩ := bind_some h
 refine sr mixed [] hst (fun _ => .o (op_callF call26 (law13_example_ok ht19) (.cons (.of .k) <| .nil)) <| .o (op_buildSl (R := rI) (us := [(1:Int),(9:Int)]) ud22 tok3 (.cons .k <| .cons .k <| .nil _) rfl (leb rfl)) <| .u [0] rfl rfl ((op_callF call23 (counts_Plan_ok ht21) (.cons (.of z1) <| .cons (.of z0) <| .nil)).glo) <| .q 0 rfl <| .o (op_extract z0 rfl) <| .o (op_extract z1 rfl) <| .o (op_assign z1) <| .o (op_assign z1) <| .n) fun n2 a w hst => ?_
 replace hst := hst.to [6,7,8,9] [_,_,_,_] [_] rfl rfl
 obtain ⟨t25,ht25,h⟩ := bind_some h
 obtain ⟨t27,ht27,h⟩ := bind_some h
 refine sr mixed [] hst (fun _ => .o (op_callF call26 (law13_example_ok ht25) (.cons (.of .k) <| .nil)) <| .o (op_buildSl (R := rI) (us := [(2:Int),(9:Int)]) ud22 tok3 (.cons .k <| .cons .k <| .nil _) rfl (leb rfl)) <| .u [0] rfl rfl ((op_callF call23 (counts_Plan_ok ht27) (.cons (.of z1) <| .cons (.of z0) <| .nil)).glo) <| .q 0 rfl <| .o (op_extract z0 rfl) <| .o (op_extract z1 rfl) <| .o (op_assign z1) <| .o (op_assign z1) <| .n) fun n3 a w hst => ?_
 replace hst := hst.to [7,8,9,10,11] [_,_,_,_,_] [_] rfl rfl
 obtain ⟨t31,ht31,h⟩ := bind_some h
 obtain ⟨t32,ht32,h⟩ := bind_some h
 refine sr mixed [] hst (fun _ => .o (op_callF call26 (law13_example_ok ht31) (.cons (.of .k) <| .nil)) <| .u [0] rfl rfl ((op_callF call12 (counts_Limits_ok ht32) (.cons (.of z0) <| .nil)).glo) <| .q 0 rfl <| .o (op_extract z0 rfl) <| .o (op_extract z1 rfl) <| .o (op_extract z2 rfl) <| .o (op_assign z2) <| .o (op_assign z2) <| .o (op_assign z2) <| .n) fun n4 a w hst => ?_
 replace hst := hst.to [6,7,8,9,10,11,12,13] [_,_,_,_,_,_,_,_] [_] rfl rfl
 refine wp_seq_k (fun K6 hK6 => ?_)
 refine sr mixed [] hst (fun _ => .q 7 rfl <| .o (op_neq z0 .k) <| .q 0 rfl <| .g rfl rfl (.b 0 rfl) (fun _ => op_move z8) <| .g rfl rfl (.b 1 rfl) (fun hc => op_neq (.cond z0 hc) .k) <| .o (op_or z2 (fun hp => (.cond z0 (beqF hp)))) <| .q 0 rfl <| .g rfl rfl (.b 0 rfl) (fun _ => op_move z10) <| .g rfl rfl (.b 1 rfl) (fun hc => op_neq (.cond z0 hc) .k) <| .o (op_or z2 (fun hp => (.cond z0 (beqF hp)))) <| .q 0 rfl <| .g rfl rfl (.b 0 rfl) (fun _ => op_move z13) <| .g rfl rfl (.b 1 rfl) (fun hc => op_neq (.cond z0 hc) .k) <| .o (op_or z2 (fun hp => (.cond z0 (beqF hp)))) <| .q 0 rfl <| .g rfl rfl (.b 0 rfl) (fun _ => op_move z15) <| .g rfl rfl (.b 1 rfl) (fun hc => op_len ud31 (.cond z0 hc)) <| .g rfl rfl (.b 2 rfl) (fun hc => op_neq (.cond z0 hc) .k) <| .o (op_or z3 (fun hp => (.cond z0 (beqF hp)))) <| .q 0 rfl <| .g rfl rfl (.b 0 rfl) (fun _ => op_move z21) <| .g rfl rfl (.b 1 rfl) (fun hc => op_len ud32 (.cond z0 hc)) <| .g rfl rfl (.b 2 rfl) (fun hc => op_neq (.cond z0 hc) .k) <| .o (op_or z3 (fun hp => (.cond z0 (beqF hp)))) <| .n) fun n5 a w hst => ?_
 replace hst := hst.to [23,24,25,28,30] [_,_,_,_,_] [_] rfl rfl
 refine wt hst (fun b15 => ?_) (fun b15 => ?_)
 ·replace h := ite_t b15 h
  refine sr mixed [] hst (fun _ => .o (op_assign .k) <| .n) fun n6 a w hst => ?_
  replace hst := hst.to [0] [_] [_] rfl rfl
  refine wp_ret ?_
  obtain rfl := sj h
  exact ret_st undef [] hpl hst rfl (.tmp z0 .nil) rfl rfl rfl
 ·replace h := ite_f b15 h
  refine wp_skip ?_
  refine hK6 _ _ ?_
  try clear hK6 K6
  obtain ⟨t62,ht62,h⟩ := bind_some h
  refine sr mixed [] hst (fun _ => .q 1 rfl <| .u [0] rfl rfl ((op_callF call27 (counts_Clash_ok ht62) (.cons (.of .k) <| .cons (.of z0) <| .nil)).glo) <| .q 0 rfl <| .o (op_extract z0 rfl) <| .o (op_extract z1 rfl) <| .o (op_assign z1) <| .o (op_assign z1) <| .n) fun n7 a w hst => ?_
  replace hst := hst.to [5,6,8,9,10,11] [_,_,_,_,_,_] [_] rfl rfl
  refine wp_seq_k (fun K10 hK10 => ?_)
  obtain ⟨t70,ht70,h⟩ := bind_some h
  obtain ⟨t75,ht75,h⟩ := bind_some h
  obtain ⟨t81,ht81,h⟩ := bind_some h
  obtain ⟨t87,ht87,h⟩ := bind_some h
  refine sr mixed [] hst (fun _ => .q 1 rfl <| .o (op_neq z0 .k) <| .q 0 rfl <| .g rfl rfl (.b 0 rfl) (fun _ => op_move z3) <| .g rfl rfl (.b 1 rfl) (fun _ => op_buildSl (R := rI) (us := [(1:Int),(2:Int),(5:Int)]) ud22 tok3 (.cons .k <| .cons .k <| .cons .k <| .nil _) rfl (leb rfl)) <| .g rfl rfl (.b 2 rfl) (fun hc => op_callF call25 (ref01_SameInts_ok (opt_t ht70 hc)) (.cons (.of (.cond z1 hc)) <| .cons (.of (.cond z0 hc)) <| .nil)) <| .g rfl rfl (.b 3 rfl) (fun hc => op_not (.cond z0 hc)) <| .o (op_or z4 (fun hp => (.cond z0 (beqF hp)))) <| .q 0 rfl <| .g rfl rfl (.b 0 rfl) (fun _ => op_move z12) <| .g rfl rfl (.b 1 rfl) (fun hc => op_index ud32 tok9 (.cond z0 hc) .k (opt_t ht75 hc)) <| .g rfl rfl (.b 2 rfl) (fun hc => op_load tok9 (.cond z0 hc)) <| .g rfl rfl (.b 3 rfl) (fun hc => op_neqS (.cond z0 hc) .k) <| .o (op_or z4 (fun hp => (.cond z0 (beqF hp)))) <| .q 0 rfl <| .g rfl rfl (.b 0 rfl) (fun _ => op_move z18) <| .g rfl rfl (.b 1 rfl) (fun hc => op_index ud32 tok9 (.cond z0 hc) .k (opt_t ht81 hc)) <| .g rfl rfl (.b 2 rfl) (fun hc => op_load tok9 (.cond z0 hc)) <| .g rfl rfl (.b 3 rfl) (fun hc => op_neqS (.cond z0 hc) .k) <| .o (op_or z4 (fun hp => (.cond z0 (beqF hp)))) <| .q 0 rfl <| .g rfl rfl (.b 0 rfl) (fun _ => op_move z24) <| .g rfl rfl (.b 1 rfl) (fun hc => op_index ud32 tok9 (.cond z0 hc) .k (opt_t ht87 hc)) <| .g rfl rfl (.b 2 rfl) (fun hc => op_load tok9 (.cond z0 hc)) <| .g rfl rfl (.b 3 rfl) (fun hc => op_neqS (.cond z0 hc) .k) <| .o (op_or z4 (fun hp => (.cond z0 (beqF hp)))) <| .n) fun n8 a w hst => ?_
  replace hst := hst.to [25,28,30,31] [_,_,_,_] [_] rfl rfl
  refine wt hst (fun b14 => ?_) (fun b14 => ?_)
  ·replace h := ite_t b14 h
   refine sr mixed [] hst (fun _ => .o (op_assign .k) <| .n) fun n9 a w hst => ?_
   replace hst := hst.to [0] [_] [_] rfl rfl
   refine wp_ret ?_
   obtain rfl := sj h
   exact ret_st undef [] hpl hst rfl (.tmp z0 .nil) rfl rfl rfl
  ·replace h := ite_f b14 h
   refine wp_skip ?_
   refine hK10 _ _ ?_
   try clear hK10 K10
   obtain ⟨t93,ht93,h⟩ := bind_some h
   obtain ⟨t97,ht97,h⟩ := bind_some h
   obtain ⟨t101,ht101,h⟩ := bind_some h
   obtain ⟨t104,ht104,h⟩ := bind_some h
   obtain ⟨t109,ht109,h⟩ := bind_some h
   obtain ⟨t112,ht112,h⟩ := bind_some h
   refine sr mixed [] hst (fun _ => .q 3 rfl <| .o (op_buildSl (R := rI) (us := [(2:Int),(8:Int)]) ud22 tok3 (.cons .k <| .cons .k <| .nil _) rfl (leb rfl)) <| .o (op_callF call25 (ref01_SameInts_ok ht93) (.cons (.of z1) <| .cons (.of z0) <| .nil)) <| .q 0 rfl <| .g rfl rfl (.b 0 rfl) (fun _ => op_move z6) <| .g rfl rfl (.b 1 rfl) (fun _ => op_buildSl (R := rI) (us := [(2:Int),(8:Int)]) ud22 tok3 (.cons .k <| .cons .k <| .nil _) rfl (leb rfl)) <| .g rfl rfl (.b 2 rfl) (fun hc => op_callF call25 (ref01_SameInts_ok (opt_t ht97 hc)) (.cons (.of (.cond z1 hc)) <| .cons (.of (.cond z0 hc)) <| .nil)) <| .o (op_and z3 (fun hp => (.cond z0 (beqT hp)))) <| .q 0 rfl <| .g rfl rfl (.b 0 rfl) (fun _ => op_move z10) <| .g rfl rfl (.b 1 rfl) (fun hc => op_index ud31 tok43 (.cond z0 hc) .k (opt_t ht101 hc)) <| .g rfl rfl (.b 2 rfl) (fun hc => op_load tok43 (.cond z0 hc)) <| .g rfl rfl (.b 3 rfl) (fun _ => op_buildSl (R := rI) (us := [(2:Int),(9:Int)]) ud22 tok3 (.cons .k <| .cons .k <| .nil _) rfl (leb rfl)) <| .g rfl rfl (.b 4 rfl) (fun hc => op_callF call21 (counts_Holds_ok (opt_t ht104 hc)) (.cons (.of (.cond z1 hc)) <| .cons (.of (.cond z0 hc)) <| .nil)) <| .g rfl rfl (.b 5 rfl) (fun hc => op_not (.cond z0 hc)) <| .o (op_and z6 (fun hp => (.cond z0 (beqT hp)))) <| .q 0 rfl <| .g rfl rfl (.b 0 rfl) (fun _ => op_move z18) <| .g rfl rfl (.b 1 rfl) (fun hc => op_index ud31 tok43 (.cond z0 hc) .k (opt_t ht109 hc)) <| .g rfl rfl (.b 2 rfl) (fun hc => op_load tok43 (.cond z0 hc)) <| .g rfl rfl (.b 3 rfl) (fun _ => op_buildSl (R := rI) (us := [(2:Int),(8:Int)]) ud22 tok3 (.cons .k <| .cons .k <| .nil _) rfl (leb rfl)) <| .g rfl rfl (.b 4 rfl) (fun hc => op_callF call21 (counts_Holds_ok (opt_t ht112 hc)) (.cons (.of (.cond z1 hc)) <| .cons (.of (.cond z0 hc)) <| .nil)) <| .o (op_and z5 (fun hp => (.cond z0 (beqT hp)))) <| .o (op_assign z0) <| .n) fun n10 a w hst => ?_
   replace hst := hst.to [23] [_] [_] rfl rfl
   refine wp_ret ?_
   obtain rfl := sj h
   exact ret_st undef [] hpl hst rfl (.tmp z0 .nil) rfl rfl rfl

/- diorama/dioramalaw13.CountsHolds -/
noncomputable def flaw13_CountsHolds (l_ : (List Int)) (n_ : Int) (raw_ : (List Int)) (odd_ : Scounts_Limit) (mul_ : Int) : Option (Bool) := (fref01_Around n_ (6:Int)).bind fun t18 => (fref13_Made l_ (IntKind.i64.wrap ((1:Int) + t18))).bind fun t22 => (flaw13_plain odd_).bind fun t25 => (fref01_Around mul_ (3:Int)).bind fun t32 => (idx [(65536:Int),(65537:Int),(0:Int)] t32).bind fun t33 => (rm (t22.length + [t25,(Sref13_Limit.mk (0:Int) (IntKind.i64.wrap ((IntKind.i64.wrap ((1:Int) + t18)) - (1:Int))) mul_ true),(Sref13_Limit.mk (0:Int) (-1:Int) t33 false)].length)).bind fun _ => (flaw13_some raw_ (IntKind.i64.wrap ((1:Int) + t18))).bind fun t40 => (fref01_Take raw_ (IntKind.i64.wrap ((1:Int) + t18))).bind fun t43 => (tailrec (fun (s9 : Int) => ((if (decide (s9 < ((t22 ++ [t25,(Sref13_Limit.mk (0:Int) (IntKind.i64.wrap ((IntKind.i64.wrap ((1:Int) + t18)) - (1:Int))) mul_ true),(Sref13_Limit.mk (0:Int) (-1:Int) t33 false)]).length : Int))) = true then (idx (t22 ++ [t25,(Sref13_Limit.mk (0:Int) (IntKind.i64.wrap ((IntKind.i64.wrap ((1:Int) + t18)) - (1:Int))) mul_ true),(Sref13_Limit.mk (0:Int) (-1:Int) t33 false)]) s9).bind fun t55 => (idx (t22 ++ [t25,(Sref13_Limit.mk (0:Int) (IntKind.i64.wrap ((IntKind.i64.wrap ((1:Int) + t18)) - (1:Int))) mul_ true),(Sref13_Limit.mk (0:Int) (-1:Int) t33 false)]) s9).bind fun t60 => (idx (t22 ++ [t25,(Sref13_Limit.mk (0:Int) (IntKind.i64.wrap ((IntKind.i64.wrap ((1:Int) + t18)) - (1:Int))) mul_ true),(Sref13_Limit.mk (0:Int) (-1:Int) t33 false)]) s9).bind fun t65 => (idx (t22 ++ [t25,(Sref13_Limit.mk (0:Int) (IntKind.i64.wrap ((IntKind.i64.wrap ((1:Int) + t18)) - (1:Int))) mul_ true),(Sref13_Limit.mk (0:Int) (-1:Int) t33 false)]) s9).bind fun t70 => (tailrec (fun (s80 : Int) => ((if (decide (s80 < ([t40,t43,([] : (List Int)),[(65536:Int),(1:Int),(65536:Int)],[(0:Int),(0:Int),(0:Int),(0:Int),(0:Int),(65537:Int)]].length : Int))) = true then (idx [t40,t43,([] : (List Int)),[(65536:Int),(1:Int),(65536:Int)],[(0:Int),(0:Int),(0:Int),(0:Int),(0:Int),(65537:Int)]] s80).bind fun t83 => (fcounts_Holds (Scounts_Limit.mk (t55).A (t60).B (t65).Mul (t70).Least) t83).bind fun t85 => (idx (t22 ++ [t25,(Sref13_Limit.mk (0:Int) (IntKind.i64.wrap ((IntKind.i64.wrap ((1:Int) + t18)) - (1:Int))) mul_ true),(Sref13_Limit.mk (0:Int) (-1:Int) t33 false)]) s9).bind fun t88 => (idx [t40,t43,([] : (List Int)),[(65536:Int),(1:Int),(65536:Int)],[(0:Int),(0:Int),(0:Int),(0:Int),(0:Int),(65537:Int)]] s80).bind fun t92 => (fref13_Holds t88 t92).bind fun t94 => (if (t85 != t94) = true then (some (.inr (.inr false))) else (some (.inl (IntKind.i64.wrap (s80 + (1:Int)))))) else (some (.inr (.inl ())))) : Option ((Int) ⊕ ((Unit) ⊕ (Bool))))) (0:Int)).bind fun (e81 : (Unit) ⊕ (Bool)) => (match e81 with | .inl _ => (some (.inl (IntKind.i64.wrap (s9 + (1:Int))))) | .inr p90 => (some (.inr (.inr p90)))) else (some (.inr (.inl ())))) : Option ((Int) ⊕ ((Unit) ⊕ (Bool))))) (0:Int)).bind fun (e10 : (Unit) ⊕ (Bool)) => (match e10 with | .inl _ => (flaw13_lives).bind fun t96 => (some t96) | .inr p71 => (some p71))
set_option maxRecDepth 100000 in
set_option maxHeartbeats 4000000 in
theorem law13_CountsHolds_ok {l_ : (List Int)} {n_ : Int} {raw_ : (List Int)} {odd_ : Scounts_Limit} {mul_ : Int} {r : Bool} (h : flaw13_CountsHolds l_ n_ raw_ odd_ mul_ = some r) : FnOk Tryz.prog 4 [tsl rI l_,ti n_,tsl rI raw_,rScounts_Limit.ty odd_,ti mul_] [glo] (fun _ => []) (fun _ => tb r) := by
 unfold flaw13_CountsHolds at h
 refine FnOk.enter Tryz.func4 rfl Tryz.ntmps4 (leb rfl) (fun M0 M w0 a hpl hst => ?_)
 replace hst : St M w0 97 [(0,tsl rI l_),(1,ti n_),(2,tsl rI raw_),(3,rScounts_Limit.ty odd_),(4,ti mul_)] [glo] a w0 := hst
 refine sr mixed [] hst (fun _ => .o (op_boxR (R := rScounts_Limit) (u := odd_) z3) <| .o (op_assign .k) <| .n) fun n0 a w hst => ?_
 replace hst := hst.to [0,2,3,4,6] [_,_,_,_,_] [_] rfl rfl
 obtain ⟨t18,ht18,h⟩ := bind_some h
 refine sr mixed [] hst (fun _ => .q 2 rfl <| .o (op_callF call17 (ref01_Around_ok ht18) (.cons (.of z0) <| .cons (.of .k) <| .nil)) <| .o (op_add .k z0) <| .o (op_assign z0) <| .n) fun n1 a w hst => ?_
 replace hst := hst.to [3,4,5,7,8] [_,_,_,_,_] [_] rfl rfl
 obtain ⟨t22,ht22,h⟩ := bind_some h
 refine sr mixed [v1 2 (fun v0 => own rSref13_Limit 41 t22 v0)] hst (fun _ => .q 2 rfl <| .q 1 rfl <| .m [] [1] rfl rfl rfl (op_callF call18 (ref13_Made_ok ht22) (.cons (.of z1) <| .cons (.of z0) <| .nil)) <| .ud (f := fun v => tv v) 2 rfl [] rfl rfl (op_assign z0) <| .n) fun n2 a w hst => ?_
 replace hst := hst.to [2,3,4,5,7,8] [_,_,_,_,_,_] [_,_] rfl rfl
 refine wp_seq_k (fun K5 hK5 => ?_)
 obtain ⟨t25,ht25,h⟩ := bind_some h
 obtain ⟨t32,ht32,h⟩ := bind_some h
 obtain ⟨t33,ht33,h⟩ := bind_some h
 obtain ⟨u37,hu37,h⟩ := bind_some h
 refine wr mixed [v1 14 (fun v0 => own rSref13_Limit 41 (t22 ++ [t25,(Sref13_Limit.mk (0:Int) (IntKind.i64.wrap ((IntKind.i64.wrap ((1:Int) + t18)) - (1:Int))) mul_ true),(Sref13_Limit.mk (0:Int) (-1:Int) t33 false)]) v0)] hst (fun _ => .q 1 rfl <| .o (op_load tok43 z4) <| .o (op_callF call15 (law13_plain_ok ht25) (.cons (.of z0) <| .nil)) <| .q 5 rfl <| .o (op_sub z0 .k) <| .q 10 rfl <| .p (T := rSref13_Limit.ty (Sref13_Limit.mk (0:Int) (IntKind.i64.wrap ((IntKind.i64.wrap ((1:Int) + t18)) - (1:Int))) mul_ true)) rfl (op_build ud41 pl41 zv41 zc41 (.cons (R := rI) (u := (0:Int)) rfl .k (leb rfl) <| .cons (R := rI) (u := (IntKind.i64.wrap ((IntKind.i64.wrap ((1:Int) + t18)) - (1:Int)))) rfl z1 (leb rfl) <| .cons (R := rI) (u := mul_) rfl z0 (leb rfl) <| .cons (R := rBool) (u := true) rfl .k (leb rfl) <| .nil _)) <| .o (op_buildSl (R := rI) (us := [(65536:Int),(65537:Int),(0:Int)]) ud22 tok3 (.cons .k <| .cons .k <| .cons .k <| .nil _) rfl (leb rfl)) <| .q 13 rfl <| .o (op_callF call17 (ref01_Around_ok ht32) (.cons (.of z0) <| .cons (.of .k) <| .nil)) <| .o (op_index ud22 tok3 z2 z0 ht33) <| .o (op_load tok3 z0) <| .p (T := rSref13_Limit.ty (Sref13_Limit.mk (0:Int) (-1:Int) t33 false)) rfl (op_build ud41 pl41 zv41 zc41 (.cons (R := rI) (u := (0:Int)) rfl .k (leb rfl) <| .cons (R := rI) (u := (-1:Int)) rfl .k (leb rfl) <| .cons (R := rI) (u := t33) rfl z0 (leb rfl) <| .nil _)) <| .o (op_buildSl (R := rSref13_Limit) (us := [t25,(Sref13_Limit.mk (0:Int) (IntKind.i64.wrap ((IntKind.i64.wrap ((1:Int) + t18)) - (1:Int))) mul_ true),(Sref13_Limit.mk (0:Int) (-1:Int) t33 false)]) ud36 tok41 (.cons z10 <| .cons z6 <| .cons z0 <| .nil _) rfl (leb rfl)) <| .e [] [1] [2] rfl rfl rfl rfl (op_append (R := rSref13_Limit) ud36 tok41 (leb rfl) z13 z0 hu37) <| .ud (f := fun v => tv v) 14 rfl [] rfl rfl (op_assign z0) <| .n) fun n3 a w hst => ?_
 replace hst := hst.to [14,15,17,19] [_,_,_,_] [_,_] rfl rfl
 refine hK5 _ _ ?_
 try clear hK5 K5
 obtain ⟨t40,ht40,h⟩ := bind_some h
 obtain ⟨t43,ht43,h⟩ := bind_some h
 refine sr mixed [] hst (fun _ => .q 3 rfl <| .q 3 rfl <| .o (op_callF call19 (law13_some_ok ht40) (.cons (.of z1) <| .cons (.of z0) <| .nil)) <| .q 6 rfl <| .q 6 rfl <| .o (op_callF call20 (ref01_Take_ok ht43) (.cons (.of z1) <| .cons (.of z0) <| .nil)) <| .o (op_buildSl (R := rI) (us := [(65536:Int),(1:Int),(65536:Int)]) ud22 tok3 (.cons .k <| .cons .k <| .cons .k <| .nil _) rfl (leb rfl)) <| .o (op_buildSl (R := rI) (us := [(0:Int),(0:Int),(0:Int),(0:Int),(0:Int),(65537:Int)]) ud22 tok3 (.cons .k <| .cons .k <| .cons .k <| .cons .k <| .cons .k <| .cons .k <| .nil _) rfl (leb rfl)) <| .o (op_buildSl (R := (rSl rI)) (us := [t40,t43,([] : (List Int)),[(65536:Int),(1:Int),(65536:Int)],[(0:Int),(0:Int),(0:Int),(0:Int),(0:Int),(65537:Int)]]) ud49 tok22 (.cons z5 <| .cons z2 <| .cons .nilsl <| .cons z1 <| .cons z0 <| .nil _) rfl (leb rfl)) <| .o (op_assign z0) <| .n) fun n4 a w hst => ?_
 replace hst := hst.to [9,10,11] [_,_,_] [_,_] rfl rfl
 refine wp_seq_k (fun K7 hK7 => ?_)
 refine sr mixed [] hst (fun _ => .o (op_assign .k) <| .n) fun n5 a w hst => ?_
 replace hst := hst.to [0,1,2,3] [_,_,_,_] [_,_] rfl rfl
 obtain ⟨e10,he10,h⟩ := bind_some h
 have hJp70 : ∀ (p70 : Unit) a w,(.inl p70) = e10 → St M w0 97 [] [glo] a w → K7 a w := by
  intro p70 a w he hst
  subst he
  simp only at h
  refine hK7 _ _ ?_
  try clear hK7 K7
  obtain ⟨t96,ht96,h⟩ := bind_some h
  refine sr mixed [] hst (fun _ => .u [0] rfl rfl ((op_callF call16 (law13_lives_ok ht96) (.nil)).glo) <| .o (op_assign z0) <| .n) fun n14 a w hst => ?_
  replace hst := hst.to [1] [_] [_] rfl rfl
  refine wp_ret ?_
  obtain rfl := sj h
  exact ret_st undef [] hpl hst rfl (.tmp z0 .nil) rfl rfl rfl
 have hJp71 : ∀ (p71 : Bool) a w,(.inr p71) = e10 → St M w0 97 [(10,tb p71)] [glo] a w → Ret Tryz.prog Tryz.f4 M0 [glo] w0 (fun _ => []) (fun _ => tb r) .ret a w := by
  intro p71 a w he hst
  subst he
  simp only at h
  obtain rfl := sj h
  exact ret_st undef [] hpl hst rfl (.tmp z0 .nil) rfl rfl rfl
 refine wp_block ?_
 refine wp_loopK _ (fun (s9 : Int) a w => St M w0 97 [(14,ti s9),(13,tsl (rSl rI) [t40,t43,([] : (List Int)),[(65536:Int),(1:Int),(65536:Int)],[(0:Int),(0:Int),(0:Int),(0:Int),(0:Int),(65537:Int)]]),(12,tv (n3 14))] [glo,own rSref13_Limit 41 (t22 ++ [t25,(Sref13_Limit.mk (0:Int) (IntKind.i64.wrap ((IntKind.i64.wrap ((1:Int) + t18)) - (1:Int))) mul_ true),(Sref13_Limit.mk (0:Int) (-1:Int) t33 false)]) (n3 14)] a w) _ _ he10 (hst.pick [0,1,3]) ?_
 clear h
 intro s9 o a w K73 hI h ho hK73
 have hst := hI
 clear hI
 refine wp_seq_k (fun K74 hK74 => ?_)
 refine sr mixed [] hst (fun _ => .q 0 rfl <| .q 3 rfl <| .u [1] rfl rfl (op_lenO ud36 z0) <| .o (op_lss z2 z0) <| .n) fun n6 a w hst => ?_
 replace hst := hst.to [1,3,4,5,6] [_,_,_,_,_] [_,_] rfl rfl
 refine wp_test 1 hst rfl (fun b99 => ?_) (fun b99 => ?_)
 ·replace h := ite_t b99 h
  refine wp_skip ?_
  refine hK74 _ _ ?_
  try clear hK74 K74
  refine wp_seq_k (fun K76 hK76 => ?_)
  refine wp_block ?_
  obtain ⟨t55,ht55,h⟩ := bind_some h
  obtain ⟨t60,ht60,h⟩ := bind_some h
  obtain ⟨t65,ht65,h⟩ := bind_some h
  obtain ⟨t70,ht70,h⟩ := bind_some h
  refine sr mixed [v1 21 (fun v0 => box (rScounts_Limit.cs zz4) v0),v1 21 (fun v0 => box (rScounts_Limit.cs (Scounts_Limit.mk (t55).A (t60).B (t65).Mul (t70).Least)) v0)] hst (fun _ => .q 4 rfl <| .q 3 rfl <| .u [1] rfl rfl (op_indexOi ud36 tok41 z1 z0 ht55) <| .u [1] rfl rfl (op_fieldO fld41_0 z0 (idx_ne ht55)) <| .u [1] rfl rfl (op_loadOf (R2 := rI) (f := (t55).A) tok3 z0 ht55 rfl) <| .q 9 rfl <| .q 8 rfl <| .u [1] rfl rfl (op_indexOi ud36 tok41 z1 z0 ht60) <| .u [1] rfl rfl (op_fieldO fld41_1 z0 (idx_ne ht60)) <| .u [1] rfl rfl (op_loadOf (R2 := rI) (f := (t60).B) tok3 z0 ht60 rfl) <| .q 14 rfl <| .q 13 rfl <| .u [1] rfl rfl (op_indexOi ud36 tok41 z1 z0 ht65) <| .u [1] rfl rfl (op_fieldO fld41_2 z0 (idx_ne ht65)) <| .u [1] rfl rfl (op_loadOf (R2 := rI) (f := (t65).Mul) tok3 z0 ht65 rfl) <| .q 19 rfl <| .q 18 rfl <| .u [1] rfl rfl (op_indexOi ud36 tok41 z1 z0 ht70) <| .u [1] rfl rfl (op_fieldO fld41_3 z0 (idx_ne ht70)) <| .u [1] rfl rfl (op_loadOf (R2 := rBool) (f := (t70).Least) tok4 z0 ht70 rfl) <| .p (T := rScounts_Limit.ty (Scounts_Limit.mk (t55).A (t60).B (t65).Mul (t70).Least)) rfl (op_build Tryz.underlying43 pl43 zv43 zc43 (.cons (R := rI) (u := (t55).A) rfl z15 (leb rfl) <| .cons (R := rI) (u := (t60).B) rfl z10 (leb rfl) <| .cons (R := rI) (u := (t65).Mul) rfl z5 (leb rfl) <| .cons (R := rBool) (u := (t70).Least) rfl z0 (leb rfl) <| .nil _)) <| .m [] [2] rfl rfl rfl (op_alloc (R := rScounts_Limit) (a := zz4) tok43 zok43) <| .e [] [2] [3] rfl rfl rfl rfl (op_storeB (R := rScounts_Limit) (a := (Scounts_Limit.mk (t55).A (t60).B (t65).Mul (t70).Least)) tok43 z0 z1 (leb rfl)) <| .n) fun n8 a w hst => ?_
  replace hst : St _ _ _ [_,_,_,_,_,_,_,_,_] [_,_] _ _ := ((((hst.pick [0,5,10,15,21,22,24,25,26]).selA [2,0,1] rfl).shareB 4 rfl).add 0 rfl (fun _ _ _ h => h.2)).pick [0,2,3,4,5,7,8,9,10]
  refine sr mixed [] hst (fun _ => .o (op_assign .k) <| .n) fun n9 a w hst => ?_
  replace hst := hst.to [0,1,2,3,4,5,6,7,8,9] [_,_,_,_,_,_,_,_,_,_] [_,_] rfl rfl
  obtain ⟨e81,he81,h⟩ := bind_some h
  have hJp89 : ∀ (p89 : Unit) a w,(.inl p89) = e81 → St M w0 97 [(14,ti s9),(13,tsl (rSl rI) [t40,t43,([] : (List Int)),[(65536:Int),(1:Int),(65536:Int)],[(0:Int),(0:Int),(0:Int),(0:Int),(0:Int),(65537:Int)]]),(12,tv (n3 14))] [glo,own rSref13_Limit 41 (t22 ++ [t25,(Sref13_Limit.mk (0:Int) (IntKind.i64.wrap ((IntKind.i64.wrap ((1:Int) + t18)) - (1:Int))) mul_ true),(Sref13_Limit.mk (0:Int) (-1:Int) t33 false)]) (n3 14)] a w → K76 a w := by
   intro p89 a w he hst
   subst he
   simp only at h
   refine hK76 _ _ ?_
   try clear hK76 K76
   refine wr mixed [] hst (fun _ => .q 0 rfl <| .o (op_add z0 .k) <| .o (op_assign z0) <| .n) fun n7 a w hst => ?_
   replace hst := hst.to [2,3,4] [_,_,_] [_,_] rfl rfl
   exact hK73 _ _ _ (sj h).symm (hst.pick [0,1,2])
  have hJp90 : ∀ (p90 : Bool) a w,(.inr p90) = e81 → St M w0 97 [(10,tb p90)] [glo] a w → Ret Tryz.prog Tryz.f4 M0 [glo] w0 (fun _ => []) (fun _ => tb r) .ret a w := by
   intro p90 a w he hst
   subst he
   simp only at h
   exact hJp71 _ _ _ (ho _ (sj h).symm) (hst.pick [0])
  refine wp_block ?_
  refine wp_loopK _ (fun (s80 : Int) a w => St M w0 97 [(16,ti s80),(15,tptr (rScounts_Limit.cs (Scounts_Limit.mk (t55).A (t60).B (t65).Mul (t70).Least))),(14,ti s9),(13,tsl (rSl rI) [t40,t43,([] : (List Int)),[(65536:Int),(1:Int),(65536:Int)],[(0:Int),(0:Int),(0:Int),(0:Int),(0:Int),(65537:Int)]]),(12,tv (n3 14))] [glo,own rSref13_Limit 41 (t22 ++ [t25,(Sref13_Limit.mk (0:Int) (IntKind.i64.wrap ((IntKind.i64.wrap ((1:Int) + t18)) - (1:Int))) mul_ true),(Sref13_Limit.mk (0:Int) (-1:Int) t33 false)]) (n3 14)] a w) _ _ he81 (hst.pick [0,1,7,8,9]) ?_
  clear h
  intro s80 o a w K91 hI h ho hK91
  have hst := hI
  clear hI
  refine wp_seq_k (fun K92 hK92 => ?_)
  refine sr mixed [] hst (fun _ => .q 0 rfl <| .q 4 rfl <| .o (op_len ud49 z0) <| .o (op_lss z2 z0) <| .n) fun n10 a w hst => ?_
  replace hst := hst.to [3,4,5,6,7,8] [_,_,_,_,_,_] [_,_] rfl rfl
  refine wt hst (fun b98 => ?_) (fun b98 => ?_)
  ·replace h := ite_t b98 h
   refine wp_skip ?_
   refine hK92 _ _ ?_
   try clear hK92 K92
   refine wp_seq_k (fun K94 hK94 => ?_)
   refine wp_block ?_
   obtain ⟨t83,ht83,h⟩ := bind_some h
   obtain ⟨t85,ht85,h⟩ := bind_some h
   obtain ⟨t88,ht88,h⟩ := bind_some h
   obtain ⟨t92,ht92,h⟩ := bind_some h
   obtain ⟨t94,ht94,h⟩ := bind_some h
   refine sr mixed [] hst (fun _ => .o (op_load tok43 z2) <| .q 5 rfl <| .q 3 rfl <| .o (op_index ud49 tok22 z1 z0 ht83) <| .o (op_load tok22 z0) <| .o (op_callF call21 (counts_Holds_ok ht85) (.cons (.of z4) <| .cons (.of z0) <| .nil)) <| .q 11 rfl <| .q 10 rfl <| .u [1] rfl rfl (op_indexOi ud36 tok41 z1 z0 ht88) <| .u [1] rfl rfl (op_loadO tok41 z0 ht88) <| .q 14 rfl <| .q 12 rfl <| .o (op_index ud49 tok22 z1 z0 ht92) <| .o (op_load tok22 z0) <| .o (op_callF call22 (ref13_Holds_ok ht94) (.cons (.of z4) <| .cons (.of z0) <| .nil)) <| .o (op_neqB Tryz.underlying4 z9 z0) <| .n) fun n12 a w hst => ?_
   replace hst := hst.to [6,15,17,18,19,20,21] [_,_,_,_,_,_,_] [_,_] rfl rfl
   refine wp_test 1 hst rfl (fun b97 => ?_) (fun b97 => ?_)
   ·replace h := ite_t b97 h
    refine sr mixed [] hst (fun _ => .o (op_assign .k) <| .n) fun n13 a w hst => ?_
    replace hst := hst.to [0,1,7] [_,_,_] [_,_] rfl rfl
    refine wp_ret ?_
    exact hJp90 _ _ _ (ho _ (sj h).symm) ((hst.pick [0]).selA [0] rfl)
   ·replace h := ite_f b97 h
    refine wp_skip ?_
    refine hK94 _ _ ?_
    try clear hK94 K94
    refine wr mixed [] hst (fun _ => .q 2 rfl <| .o (op_add z0 .k) <| .o (op_assign z0) <| .n) fun n11 a w hst => ?_
    replace hst := hst.to [2,3,5,6,7,8] [_,_,_,_,_,_] [_,_] rfl rfl
    exact hK91 _ _ _ (sj h).symm (hst.pick [0,2,3,4,5])
  ·replace h := ite_f b98 h
   refine wp_exit ?_
   exact hJp89 _ _ _ (ho _ (sj h).symm) (hst.pick [3,4,5])
 ·replace h := ite_f b99 h
  refine wp_exit ?_
  exact hJp70 _ _ _ (ho _ (sj h).symm) ((hst.pick []).selA [0] rfl)

end Go.Proofs.YtcdccjagknlmpaaGreatDoor
