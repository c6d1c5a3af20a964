/- Go functions as Lean functions, and the proofs that they compute them, written by a program. No condition. -/
import Derived.Test.YtjniiejgccdhiaaBase
namespace Go.Proofs.Ytjniiejgccdhiaa
open Go.Sim

/- diorama/dioramaref01.Around -/
noncomputable def fAround (n_ : Int) (most_ : Int) : Option (Int) := ((if (decide (n_ < (0:Int))) = true then (some (IntKind.i64.wrap (0 - (IntKind.i64.wrap (n_ + (1:Int)))))) else (some n_))).bind fun (p6 : Int) => (if (decide (most_ < (1:Int))) = true then (some (0:Int)) else (nz most_).bind fun _ => (some (Int.tmod p6 most_)))
set_option maxRecDepth 100000 in
theorem Around_ok {n_ : Int} {most_ : Int} {r : Int} (h : fAround n_ most_ = some r) : FnOk Try.prog 13 [tv (.int .i64 n_), tv (.int .i64 most_)] none (fun _ => tv (.int .i64 r)) := by
  unfold fAround at h
  refine FnOk.enter Try.func13 rfl Try.ntmps13 (Nat.le_of_ble_eq_true rfl) (fun M w0 a hst => ?_)
  replace hst : St M w0 15 [(0, tv (.int .i64 n_)), (1, tv (.int .i64 most_))] [] a w0 := hst
  refine wp_seq_k (fun K1 hK1 => ?_)
  refine wp_reg mixed [] hst (fun _ => .p rfl (op_assign .k) <| .nil _) (by kernel_rfl) (fun n2 a w hst => ?_)
  replace hst : St M w0 15 [(0, tv (.int .i64 n_)), (1, tv (.int .i64 most_))] [] a w := (hst.pick [1, 2])
  refine hK1 _ _ ?_
  clear hK1 K1
  refine wp_seq_k (fun K3 hK3 => ?_)
  refine wp_seq_k (fun K4 hK4 => ?_)
  refine wp_reg mixed [] hst (fun _ => .p rfl (op_move (.t 0 rfl)) <| .p rfl (op_lss (.t 0 rfl) .k) <| .nil _) (by kernel_rfl) (fun n5 a w hst => ?_)
  replace hst : St M w0 15 [(6, tv (.bool (decide (n_ < (0:Int))))), (0, tv (.int .i64 n_)), (1, tv (.int .i64 most_))] [] a w := (hst.pick [1, 2, 3])
  refine hK4 _ _ ?_
  clear hK4 K4
  obtain ⟨p6, hp6, h⟩ := bind_some h
  have hJp6 : ∀ a w, St M w0 15 [(0, tv (.int .i64 p6)), (1, tv (.int .i64 most_))] [] a w → K3 a w := by
    intro a w hst
    refine hK3 _ _ ?_
    clear hK3 K3
    refine wp_seq_k (fun K9 hK9 => ?_)
    refine wp_seq_k (fun K10 hK10 => ?_)
    refine wp_reg mixed [] hst (fun _ => .p rfl (op_move (.t 1 rfl)) <| .p rfl (op_lss (.t 0 rfl) .k) <| .nil _) (by kernel_rfl) (fun n11 a w hst => ?_)
    replace hst : St M w0 15 [(11, tv (.bool (decide (most_ < (1:Int))))), (0, tv (.int .i64 p6)), (1, tv (.int .i64 most_))] [] a w := (hst.pick [1, 2, 3])
    refine hK10 _ _ ?_
    clear hK10 K10
    refine wp_test 0 hst rfl (fun b16 => ?_) (fun b16 => ?_)
    · replace h := ite_t b16 h
      refine wp_seq_k (fun K12 hK12 => ?_)
      refine wp_reg mixed [] hst (fun _ => .p rfl (op_assign .k) <| .nil _) (by kernel_rfl) (fun n13 a w hst => ?_)
      replace hst : St M w0 15 [(4, tv (.int .i64 (0:Int)))] [] a w := (hst.pick [0])
      refine hK12 _ _ ?_
      clear hK12 K12
      refine wp_ret ?_
      obtain rfl := Option.some.inj h
      exact ret_st undef hst rfl (.tmp (.t 0 rfl) .nil) (fun g hg => (by cases hg)) rfl
    · replace h := ite_f b16 h
      refine wp_skip ?_
      refine hK9 _ _ ?_
      clear hK9 K9
      refine wp_seq_k (fun K14 hK14 => ?_)
      obtain ⟨u14, hu14, h⟩ := bind_some h
      refine wp_reg mixed [] hst (fun _ => .p rfl (op_move (.t 1 rfl)) <| .p rfl (op_move (.t 3 rfl)) <| .p rfl (op_rem (.t 1 rfl) (.t 0 rfl) (nz_ne hu14)) <| .p rfl (op_assign (.t 0 rfl)) <| .nil _) (by kernel_rfl) (fun n15 a w hst => ?_)
      replace hst : St M w0 15 [(4, tv (.int .i64 (Int.tmod p6 most_)))] [] a w := (hst.pick [3])
      refine hK14 _ _ ?_
      clear hK14 K14
      refine wp_ret ?_
      obtain rfl := Option.some.inj h
      exact ret_st undef hst rfl (.tmp (.t 0 rfl) .nil) (fun g hg => (by cases hg)) rfl
  replace h := hp6
  clear hp6
  refine wp_test 0 hst rfl (fun b18 => ?_) (fun b18 => ?_)
  · replace h := ite_t b18 h
    refine wp_reg mixed [] hst (fun _ => .p rfl (op_move (.t 1 rfl)) <| .p rfl (op_add (.t 0 rfl) .k) <| .p rfl (op_neg (.t 0 rfl)) <| .p rfl (op_assign (.t 0 rfl)) <| .nil _) (by kernel_rfl) (fun n17 a w hst => ?_)
    replace hst : St M w0 15 [(0, tv (.int .i64 (IntKind.i64.wrap (0 - (IntKind.i64.wrap (n_ + (1:Int))))))), (1, tv (.int .i64 most_))] [] a w := (hst.pick [3, 5])
    obtain rfl := Option.some.inj h
    exact hJp6 _ _ (hst.pick [0, 1])
  · replace h := ite_f b18 h
    refine wp_skip ?_
    obtain rfl := Option.some.inj h
    exact hJp6 _ _ (hst.pick [1, 2])

/- diorama/dioramaref01.At -/
noncomputable def fAt (l_ : (List Int)) (i_ : Int) (most_ : Int) : Option (Int) := (if ((decide (i_ < (0:Int))) || (decide (i_ ≥ (l_.length : Int)))) = true then (some (0:Int)) else (idx l_ i_).bind fun t17 => (fAround t17 most_).bind fun t20 => (some t20))
set_option maxRecDepth 100000 in
theorem At_ok {l_ : (List Int)} {i_ : Int} {most_ : Int} {r : Int} (h : fAt l_ i_ most_ = some r) : FnOk Try.prog 44 [tsl rI l_, tv (.int .i64 i_), tv (.int .i64 most_)] none (fun _ => tv (.int .i64 r)) := by
  unfold fAt at h
  refine FnOk.enter Try.func44 rfl Try.ntmps44 (Nat.le_of_ble_eq_true rfl) (fun M w0 a hst => ?_)
  replace hst : St M w0 21 [(0, tsl rI l_), (1, tv (.int .i64 i_)), (2, tv (.int .i64 most_))] [] a w0 := hst
  refine wp_seq_k (fun K1 hK1 => ?_)
  refine wp_reg mixed [] hst (fun _ => .p rfl (op_assign .k) <| .nil _) (by kernel_rfl) (fun n2 a w hst => ?_)
  replace hst : St M w0 21 [(0, tsl rI l_), (1, tv (.int .i64 i_)), (2, tv (.int .i64 most_))] [] a w := (hst.pick [1, 2, 3])
  refine hK1 _ _ ?_
  clear hK1 K1
  refine wp_seq_k (fun K3 hK3 => ?_)
  refine wp_seq_k (fun K4 hK4 => ?_)
  refine wp_reg mixed [] hst (fun _ => .p rfl (op_move (.t 1 rfl)) <| .p rfl (op_lss (.t 0 rfl) .k) <| .p rfl (op_move (.t 0 rfl)) <| .g rfl rfl (.b 0 rfl) (fun _ => op_move (.t 4 rfl)) <| .g rfl rfl (.b 1 rfl) (fun _ => op_move (.t 4 rfl)) <| .g rfl rfl (.b 2 rfl) (fun hc => op_len Try.underlying22 (.cond (.t 0 rfl) hc)) <| .g rfl rfl (.b 3 rfl) (fun hc => op_geq (.cond (.t 2 rfl) hc) (.cond (.t 0 rfl) hc)) <| .p rfl (op_or (.t 4 rfl) (fun hp => (.cond (.t 0 rfl) (beqF hp)))) <| .nil _) (by kernel_rfl) (fun n5 a w hst => ?_)
  replace hst : St M w0 21 [(14, tv (.bool ((decide (i_ < (0:Int))) || (decide (i_ ≥ (l_.length : Int)))))), (0, tsl rI l_), (1, tv (.int .i64 i_)), (2, tv (.int .i64 most_))] [] a w := (hst.pick [7, 8, 9, 10])
  refine hK4 _ _ ?_
  clear hK4 K4
  refine wp_test 0 hst rfl (fun b10 => ?_) (fun b10 => ?_)
  · replace h := ite_t b10 h
    refine wp_seq_k (fun K6 hK6 => ?_)
    refine wp_reg mixed [] hst (fun _ => .p rfl (op_assign .k) <| .nil _) (by kernel_rfl) (fun n7 a w hst => ?_)
    replace hst : St M w0 21 [(6, tv (.int .i64 (0:Int)))] [] a w := (hst.pick [0])
    refine hK6 _ _ ?_
    clear hK6 K6
    refine wp_ret ?_
    obtain rfl := Option.some.inj h
    exact ret_st undef hst rfl (.tmp (.t 0 rfl) .nil) (fun g hg => (by cases hg)) rfl
  · replace h := ite_f b10 h
    refine wp_skip ?_
    refine hK3 _ _ ?_
    clear hK3 K3
    refine wp_seq_k (fun K8 hK8 => ?_)
    obtain ⟨t17, ht17, h⟩ := bind_some h
    obtain ⟨t20, ht20, h⟩ := bind_some h
    refine wp_reg mixed [] hst (fun _ => .p rfl (op_move (.t 1 rfl)) <| .p rfl (op_move (.t 3 rfl)) <| .p rfl (op_index Try.underlying22 tok3 (.t 1 rfl) (.t 0 rfl) ht17) <| .p rfl (op_load tok3 (.t 0 rfl)) <| .p rfl (op_move (.t 7 rfl)) <| .p rfl (op_callF call13 (Around_ok ht20) (.cons (.of (.t 1 rfl)) <| .cons (.of (.t 0 rfl)) <| .nil)) <| .p rfl (op_assign (.t 0 rfl)) <| .nil _) (by kernel_rfl) (fun n9 a w hst => ?_)
    replace hst : St M w0 21 [(6, tv (.int .i64 t20))] [] a w := (hst.pick [6])
    refine hK8 _ _ ?_
    clear hK8 K8
    refine wp_ret ?_
    obtain rfl := Option.some.inj h
    exact ret_st undef hst rfl (.tmp (.t 0 rfl) .nil) (fun g hg => (by cases hg)) rfl

/- diorama/dioramaref27.Sum -/
noncomputable def fSumR (l_ : (List Int)) : Option (Int) := (tailrec (fun (s8 : Int × Int) => ((if (decide (s8.1 < (l_.length : Int))) = true then (idx l_ s8.1).bind fun t14 => (some (.inl ((IntKind.i64.wrap (s8.1 + (1:Int))), (IntKind.i64.wrap (s8.2 + t14))))) else (some (.inr s8.2))) : Option ((Int × Int) ⊕ ((Int))))) ((0:Int), (0:Int))).bind fun (p17 : (Int)) => (some p17)
set_option maxRecDepth 100000 in
theorem SumR_ok {l_ : (List Int)} {r : Int} (h : fSumR l_ = some r) : FnOk Try.prog 45 [tsl rI l_] none (fun _ => tv (.int .i64 r)) := by
  unfold fSumR at h
  refine FnOk.enter Try.func45 rfl Try.ntmps45 (Nat.le_of_ble_eq_true rfl) (fun M w0 a hst => ?_)
  replace hst : St M w0 18 [(0, tsl rI l_)] [] a w0 := hst
  refine wp_seq_k (fun K1 hK1 => ?_)
  refine wp_reg mixed [] hst (fun _ => .p rfl (op_assign .k) <| .nil _) (by kernel_rfl) (fun n2 a w hst => ?_)
  replace hst : St M w0 18 [(0, tsl rI l_)] [] a w := (hst.pick [1])
  refine hK1 _ _ ?_
  clear hK1 K1
  refine wp_seq_k (fun K3 hK3 => ?_)
  refine wp_reg mixed [] hst (fun _ => .p rfl (op_assign .k) <| .nil _) (by kernel_rfl) (fun n4 a w hst => ?_)
  replace hst : St M w0 18 [(3, tv (.int .i64 (0:Int))), (0, tsl rI l_)] [] a w := (hst.pick [0, 1])
  refine hK3 _ _ ?_
  clear hK3 K3
  refine wp_seq_k (fun K5 hK5 => ?_)
  refine wp_seq_k (fun K6 hK6 => ?_)
  refine wp_reg mixed [] hst (fun _ => .p rfl (op_assign .k) <| .nil _) (by kernel_rfl) (fun n7 a w hst => ?_)
  replace hst : St M w0 18 [(4, tv (.int .i64 (0:Int))), (3, tv (.int .i64 (0:Int))), (0, tsl rI l_)] [] a w := (hst.pick [0, 1, 2])
  refine hK6 _ _ ?_
  clear hK6 K6
  obtain ⟨e9, he9, h⟩ := bind_some h
  have hJp17 : ∀ (p17 : Int) a w, p17 = e9 → St M w0 18 [(3, tv (.int .i64 p17))] [] a w → K5 a w := by
    intro p17 a w he hst
    subst he
    refine hK5 _ _ ?_
    clear hK5 K5
    refine wp_seq_k (fun K18 hK18 => ?_)
    refine wp_reg mixed [] hst (fun _ => .p rfl (op_move (.t 0 rfl)) <| .p rfl (op_assign (.t 0 rfl)) <| .nil _) (by kernel_rfl) (fun n19 a w hst => ?_)
    replace hst : St M w0 18 [(2, tv (.int .i64 p17))] [] a w := (hst.pick [1])
    refine hK18 _ _ ?_
    clear hK18 K18
    refine wp_ret ?_
    obtain rfl := Option.some.inj h
    exact ret_st undef hst rfl (.tmp (.t 0 rfl) .nil) (fun g hg => (by cases hg)) rfl
  refine wp_block ?_
  refine wp_loopK _ (fun (s8 : Int × Int) a w => St M w0 18 [(4, tv (.int .i64 s8.1)), (3, tv (.int .i64 s8.2)), (0, tsl rI l_)] [] a w) _ _ he9 (hst.pick [0, 1, 2]) ?_
  clear h
  intro s8 o a w K20 hI h ho hK20
  have hst := hI
  clear hI
  refine wp_seq_k (fun K21 hK21 => ?_)
  refine wp_seq_k (fun K22 hK22 => ?_)
  refine wp_reg mixed [] hst (fun _ => .p rfl (op_move (.t 0 rfl)) <| .p rfl (op_move (.t 3 rfl)) <| .p rfl (op_len Try.underlying22 (.t 0 rfl)) <| .p rfl (op_lss (.t 2 rfl) (.t 0 rfl)) <| .nil _) (by kernel_rfl) (fun n23 a w hst => ?_)
  replace hst : St M w0 18 [(8, tv (.bool (decide (s8.1 < (l_.length : Int))))), (4, tv (.int .i64 s8.1)), (3, tv (.int .i64 s8.2)), (0, tsl rI l_)] [] a w := (hst.pick [3, 4, 5, 6])
  refine hK22 _ _ ?_
  clear hK22 K22
  refine wp_test 0 hst rfl (fun b27 => ?_) (fun b27 => ?_)
  · replace h := ite_t b27 h
    refine wp_skip ?_
    refine hK21 _ _ ?_
    clear hK21 K21
    refine wp_seq_k (fun K24 hK24 => ?_)
    refine wp_block ?_
    obtain ⟨t14, ht14, h⟩ := bind_some h
    refine wp_reg mixed [] hst (fun _ => .p rfl (op_move (.t 2 rfl)) <| .p rfl (op_move (.t 4 rfl)) <| .p rfl (op_move (.t 3 rfl)) <| .p rfl (op_index Try.underlying22 tok3 (.t 1 rfl) (.t 0 rfl) ht14) <| .p rfl (op_load tok3 (.t 0 rfl)) <| .p rfl (op_add (.t 4 rfl) (.t 0 rfl)) <| .p rfl (op_assign (.t 0 rfl)) <| .nil _) (by kernel_rfl) (fun n25 a w hst => ?_)
    replace hst : St M w0 18 [(3, tv (.int .i64 (IntKind.i64.wrap (s8.2 + t14)))), (4, tv (.int .i64 s8.1)), (0, tsl rI l_)] [] a w := (hst.pick [6, 8, 9])
    refine hK24 _ _ ?_
    clear hK24 K24
    refine wp_reg mixed [] hst (fun _ => .p rfl (op_move (.t 1 rfl)) <| .p rfl (op_add (.t 0 rfl) .k) <| .p rfl (op_assign (.t 0 rfl)) <| .nil _) (by kernel_rfl) (fun n26 a w hst => ?_)
    replace hst : St M w0 18 [(4, tv (.int .i64 (IntKind.i64.wrap (s8.1 + (1:Int))))), (3, tv (.int .i64 (IntKind.i64.wrap (s8.2 + t14)))), (0, tsl rI l_)] [] a w := (hst.pick [2, 3, 4])
    exact hK20 _ _ _ (Option.some.inj h).symm (hst.pick [0, 1, 2])
  · replace h := ite_f b27 h
    refine wp_exit ?_
    exact hJp17 _ _ _ (ho _ (Option.some.inj h).symm) (hst.pick [2])

/- diorama/learn.sum -/
noncomputable def fsum (l_ : (List Int)) : Option (Int) := (tailrec (fun (s8 : Int × Int) => ((if (decide (s8.1 < (l_.length : Int))) = true then (idx l_ s8.1).bind fun t10 => (some (.inl ((IntKind.i64.wrap (s8.1 + (1:Int))), (IntKind.i64.wrap (s8.2 + t10))))) else (some (.inr s8.2))) : Option ((Int × Int) ⊕ ((Int))))) ((0:Int), (0:Int))).bind fun (p19 : (Int)) => (some p19)
set_option maxRecDepth 100000 in
theorem sum_ok {l_ : (List Int)} {r : Int} (h : fsum l_ = some r) : FnOk Try.prog 48 [tsl rI l_] none (fun _ => tv (.int .i64 r)) := by
  unfold fsum at h
  refine FnOk.enter Try.func48 rfl Try.ntmps48 (Nat.le_of_ble_eq_true rfl) (fun M w0 a hst => ?_)
  replace hst : St M w0 17 [(0, tsl rI l_)] [] a w0 := hst
  refine wp_seq_k (fun K1 hK1 => ?_)
  refine wp_reg mixed [] hst (fun _ => .p rfl (op_assign .k) <| .nil _) (by kernel_rfl) (fun n2 a w hst => ?_)
  replace hst : St M w0 17 [(0, tsl rI l_)] [] a w := (hst.pick [1])
  refine hK1 _ _ ?_
  clear hK1 K1
  refine wp_seq_k (fun K3 hK3 => ?_)
  refine wp_reg mixed [] hst (fun _ => .p rfl (op_assign .k) <| .nil _) (by kernel_rfl) (fun n4 a w hst => ?_)
  replace hst : St M w0 17 [(3, tv (.int .i64 (0:Int))), (0, tsl rI l_)] [] a w := (hst.pick [0, 1])
  refine hK3 _ _ ?_
  clear hK3 K3
  refine wp_seq_k (fun K5 hK5 => ?_)
  refine wp_seq_k (fun K6 hK6 => ?_)
  refine wp_reg mixed [] hst (fun _ => .p rfl (op_move (.t 1 rfl)) <| .p rfl (op_len Try.underlying22 (.t 0 rfl)) <| .p rfl (op_move .k) <| .nil _) (by kernel_rfl) (fun n7 a w hst => ?_)
  replace hst : St M w0 17 [(6, tsl rI l_), (7, tv (.int .i64 (l_.length : Int))), (8, tv (.int .i64 (0:Int))), (3, tv (.int .i64 (0:Int)))] [] a w := (hst.pick [0, 1, 2, 3])
  refine hK6 _ _ ?_
  clear hK6 K6
  obtain ⟨e9, he9, h⟩ := bind_some h
  have hJp19 : ∀ (p19 : Int) a w, p19 = e9 → St M w0 17 [(3, tv (.int .i64 p19))] [] a w → K5 a w := by
    intro p19 a w he hst
    subst he
    refine hK5 _ _ ?_
    clear hK5 K5
    refine wp_seq_k (fun K20 hK20 => ?_)
    refine wp_reg mixed [] hst (fun _ => .p rfl (op_move (.t 0 rfl)) <| .p rfl (op_assign (.t 0 rfl)) <| .nil _) (by kernel_rfl) (fun n21 a w hst => ?_)
    replace hst : St M w0 17 [(2, tv (.int .i64 p19))] [] a w := (hst.pick [1])
    refine hK20 _ _ ?_
    clear hK20 K20
    refine wp_ret ?_
    obtain rfl := Option.some.inj h
    exact ret_st undef hst rfl (.tmp (.t 0 rfl) .nil) (fun g hg => (by cases hg)) rfl
  refine wp_block ?_
  refine wp_loopK _ (fun (s8 : Int × Int) a w => St M w0 17 [(6, tsl rI l_), (7, tv (.int .i64 (l_.length : Int))), (8, tv (.int .i64 s8.1)), (3, tv (.int .i64 s8.2))] [] a w) _ _ he9 (hst.pick [0, 1, 2, 3]) ?_
  clear h
  intro s8 o a w K22 hI h ho hK22
  have hst := hI
  clear hI
  refine wp_seq_k (fun K23 hK23 => ?_)
  refine wp_reg mixed [] hst (fun _ => .p rfl (op_lss (.t 2 rfl) (.t 1 rfl)) <| .nil _) (by kernel_rfl) (fun n24 a w hst => ?_)
  replace hst : St M w0 17 [(9, tv (.bool (decide (s8.1 < (l_.length : Int))))), (6, tsl rI l_), (7, tv (.int .i64 (l_.length : Int))), (8, tv (.int .i64 s8.1)), (3, tv (.int .i64 s8.2))] [] a w := (hst.pick [0, 1, 2, 3, 4])
  refine hK23 _ _ ?_
  clear hK23 K23
  refine wp_seq_k (fun K25 hK25 => ?_)
  refine wp_test 0 hst rfl (fun b31 => ?_) (fun b31 => ?_)
  · replace h := ite_t b31 h
    refine wp_skip ?_
    refine hK25 _ _ ?_
    clear hK25 K25
    refine wp_seq_k (fun K26 hK26 => ?_)
    refine wp_block ?_
    refine wp_seq_k (fun K27 hK27 => ?_)
    obtain ⟨t10, ht10, h⟩ := bind_some h
    refine wp_reg mixed [] hst (fun _ => .p rfl (op_index Try.underlying22 tok3 (.t 1 rfl) (.t 3 rfl) ht10) <| .p rfl (op_load tok3 (.t 0 rfl)) <| .p rfl (op_assign (.t 0 rfl)) <| .nil _) (by kernel_rfl) (fun n28 a w hst => ?_)
    replace hst : St M w0 17 [(5, tv (.int .i64 t10)), (6, tsl rI l_), (7, tv (.int .i64 (l_.length : Int))), (8, tv (.int .i64 s8.1)), (3, tv (.int .i64 s8.2))] [] a w := (hst.pick [2, 4, 5, 6, 7])
    refine hK27 _ _ ?_
    clear hK27 K27
    refine wp_reg mixed [] hst (fun _ => .p rfl (op_move (.t 4 rfl)) <| .p rfl (op_move (.t 1 rfl)) <| .p rfl (op_add (.t 1 rfl) (.t 0 rfl)) <| .p rfl (op_assign (.t 0 rfl)) <| .nil _) (by kernel_rfl) (fun n29 a w hst => ?_)
    replace hst : St M w0 17 [(3, tv (.int .i64 (IntKind.i64.wrap (s8.2 + t10)))), (6, tsl rI l_), (7, tv (.int .i64 (l_.length : Int))), (8, tv (.int .i64 s8.1))] [] a w := (hst.pick [3, 5, 6, 7])
    refine hK26 _ _ ?_
    clear hK26 K26
    refine wp_reg mixed [] hst (fun _ => .p rfl (op_add (.t 3 rfl) .k) <| .p rfl (op_move (.t 0 rfl)) <| .nil _) (by kernel_rfl) (fun n30 a w hst => ?_)
    replace hst : St M w0 17 [(8, tv (.int .i64 (IntKind.i64.wrap (s8.1 + (1:Int))))), (3, tv (.int .i64 (IntKind.i64.wrap (s8.2 + t10)))), (6, tsl rI l_), (7, tv (.int .i64 (l_.length : Int)))] [] a w := (hst.pick [1, 2, 3, 4])
    exact hK22 _ _ _ (Option.some.inj h).symm (hst.pick [2, 3, 0, 1])
  · replace h := ite_f b31 h
    refine wp_exit ?_
    exact hJp19 _ _ _ (ho _ (Option.some.inj h).symm) (hst.pick [4])

/- diorama/dioramaref27.Gcd -/
noncomputable def fGcdR (a_ : Int) (b_ : Int) : Option (Int) := (tailrec (fun (s4 : Int × Int) => ((if (decide (s4.2 > (0:Int))) = true then (nz s4.2).bind fun _ => (some (.inl (s4.2, (Int.tmod s4.1 s4.2)))) else (some (.inr s4.1))) : Option ((Int × Int) ⊕ ((Int))))) (a_, b_)).bind fun (p15 : (Int)) => (some p15)
set_option maxRecDepth 100000 in
theorem GcdR_ok {a_ : Int} {b_ : Int} {r : Int} (h : fGcdR a_ b_ = some r) : FnOk Try.prog 55 [tv (.int .i64 a_), tv (.int .i64 b_)] none (fun _ => tv (.int .i64 r)) := by
  unfold fGcdR at h
  refine FnOk.enter Try.func55 rfl Try.ntmps55 (Nat.le_of_ble_eq_true rfl) (fun M w0 a hst => ?_)
  replace hst : St M w0 14 [(0, tv (.int .i64 a_)), (1, tv (.int .i64 b_))] [] a w0 := hst
  refine wp_seq_k (fun K1 hK1 => ?_)
  refine wp_reg mixed [] hst (fun _ => .p rfl (op_assign .k) <| .nil _) (by kernel_rfl) (fun n2 a w hst => ?_)
  replace hst : St M w0 14 [(0, tv (.int .i64 a_)), (1, tv (.int .i64 b_))] [] a w := (hst.pick [1, 2])
  refine hK1 _ _ ?_
  clear hK1 K1
  refine wp_seq_k (fun K3 hK3 => ?_)
  obtain ⟨e5, he5, h⟩ := bind_some h
  have hJp15 : ∀ (p15 : Int) a w, p15 = e5 → St M w0 14 [(0, tv (.int .i64 p15))] [] a w → K3 a w := by
    intro p15 a w he hst
    subst he
    refine hK3 _ _ ?_
    clear hK3 K3
    refine wp_seq_k (fun K16 hK16 => ?_)
    refine wp_reg mixed [] hst (fun _ => .p rfl (op_move (.t 0 rfl)) <| .p rfl (op_assign (.t 0 rfl)) <| .nil _) (by kernel_rfl) (fun n17 a w hst => ?_)
    replace hst : St M w0 14 [(4, tv (.int .i64 p15))] [] a w := (hst.pick [1])
    refine hK16 _ _ ?_
    clear hK16 K16
    refine wp_ret ?_
    obtain rfl := Option.some.inj h
    exact ret_st undef hst rfl (.tmp (.t 0 rfl) .nil) (fun g hg => (by cases hg)) rfl
  refine wp_block ?_
  refine wp_loopK _ (fun (s4 : Int × Int) a w => St M w0 14 [(0, tv (.int .i64 s4.1)), (1, tv (.int .i64 s4.2))] [] a w) _ _ he5 (hst.pick [0, 1]) ?_
  clear h
  intro s4 o a w K18 hI h ho hK18
  have hst := hI
  clear hI
  refine wp_seq_k (fun K19 hK19 => ?_)
  refine wp_seq_k (fun K20 hK20 => ?_)
  refine wp_reg mixed [] hst (fun _ => .p rfl (op_move (.t 1 rfl)) <| .p rfl (op_gtr (.t 0 rfl) .k) <| .nil _) (by kernel_rfl) (fun n21 a w hst => ?_)
  replace hst : St M w0 14 [(7, tv (.bool (decide (s4.2 > (0:Int))))), (0, tv (.int .i64 s4.1)), (1, tv (.int .i64 s4.2))] [] a w := (hst.pick [1, 2, 3])
  refine hK20 _ _ ?_
  clear hK20 K20
  refine wp_test 0 hst rfl (fun b27 => ?_) (fun b27 => ?_)
  · replace h := ite_t b27 h
    refine wp_skip ?_
    refine hK19 _ _ ?_
    clear hK19 K19
    refine wp_block ?_
    refine wp_seq_k (fun K22 hK22 => ?_)
    obtain ⟨u10, hu10, h⟩ := bind_some h
    refine wp_reg mixed [] hst (fun _ => .p rfl (op_move (.t 1 rfl)) <| .p rfl (op_move (.t 3 rfl)) <| .p rfl (op_rem (.t 1 rfl) (.t 0 rfl) (nz_ne hu10)) <| .p rfl (op_assign (.t 0 rfl)) <| .nil _) (by kernel_rfl) (fun n23 a w hst => ?_)
    replace hst : St M w0 14 [(5, tv (.int .i64 (Int.tmod s4.1 s4.2))), (1, tv (.int .i64 s4.2))] [] a w := (hst.pick [3, 6])
    refine hK22 _ _ ?_
    clear hK22 K22
    refine wp_seq_k (fun K24 hK24 => ?_)
    refine wp_reg mixed [] hst (fun _ => .p rfl (op_move (.t 1 rfl)) <| .p rfl (op_assign (.t 0 rfl)) <| .nil _) (by kernel_rfl) (fun n25 a w hst => ?_)
    replace hst : St M w0 14 [(0, tv (.int .i64 s4.2)), (5, tv (.int .i64 (Int.tmod s4.1 s4.2)))] [] a w := (hst.pick [1, 2])
    refine hK24 _ _ ?_
    clear hK24 K24
    refine wp_reg mixed [] hst (fun _ => .p rfl (op_move (.t 1 rfl)) <| .p rfl (op_assign (.t 0 rfl)) <| .nil _) (by kernel_rfl) (fun n26 a w hst => ?_)
    replace hst : St M w0 14 [(1, tv (.int .i64 (Int.tmod s4.1 s4.2))), (0, tv (.int .i64 s4.2))] [] a w := (hst.pick [1, 2])
    exact hK18 _ _ _ (Option.some.inj h).symm (hst.pick [1, 0])
  · replace h := ite_f b27 h
    refine wp_exit ?_
    exact hJp15 _ _ _ (ho _ (Option.some.inj h).symm) (hst.pick [1])

/- diorama/dioramaref01.SameInts -/
noncomputable def fSameInts (a_ : (List Int)) (b_ : (List Int)) : Option (Bool) := (if ((a_.length : Int) != (b_.length : Int)) = true then (some false) else (tailrec (fun (s11 : Int) => ((if (decide (s11 < (a_.length : Int))) = true then (idx a_ s11).bind fun t19 => (idx b_ s11).bind fun t23 => (if (t19 != t23) = true then (some (.inr (.inr false))) else (some (.inl (IntKind.i64.wrap (s11 + (1:Int)))))) else (some (.inr (.inl ())))) : Option ((Int) ⊕ ((Unit) ⊕ (Bool))))) (0:Int)).bind fun (e12 : (Unit) ⊕ (Bool)) => (match e12 with | .inl p24 => (some true) | .inr p25 => (some p25)))
set_option maxRecDepth 100000 in
theorem SameInts_ok {a_ : (List Int)} {b_ : (List Int)} {r : Bool} (h : fSameInts a_ b_ = some r) : FnOk Try.prog 18 [tsl rI a_, tsl rI b_] none (fun _ => tv (.bool r)) := by
  unfold fSameInts at h
  refine FnOk.enter Try.func18 rfl Try.ntmps18 (Nat.le_of_ble_eq_true rfl) (fun M w0 a hst => ?_)
  replace hst : St M w0 26 [(0, tsl rI a_), (1, tsl rI b_)] [] a w0 := hst
  refine wp_seq_k (fun K1 hK1 => ?_)
  refine wp_reg mixed [] hst (fun _ => .p rfl (op_assign .k) <| .nil _) (by kernel_rfl) (fun n2 a w hst => ?_)
  replace hst : St M w0 26 [(0, tsl rI a_), (1, tsl rI b_)] [] a w := (hst.pick [1, 2])
  refine hK1 _ _ ?_
  clear hK1 K1
  refine wp_seq_k (fun K3 hK3 => ?_)
  refine wp_seq_k (fun K4 hK4 => ?_)
  refine wp_reg mixed [] hst (fun _ => .p rfl (op_move (.t 0 rfl)) <| .p rfl (op_len Try.underlying22 (.t 0 rfl)) <| .p rfl (op_move (.t 3 rfl)) <| .p rfl (op_len Try.underlying22 (.t 0 rfl)) <| .p rfl (op_neq (.t 2 rfl) (.t 0 rfl)) <| .nil _) (by kernel_rfl) (fun n5 a w hst => ?_)
  replace hst : St M w0 26 [(10, tv (.bool ((a_.length : Int) != (b_.length : Int)))), (0, tsl rI a_), (1, tsl rI b_)] [] a w := (hst.pick [4, 5, 6])
  refine hK4 _ _ ?_
  clear hK4 K4
  refine wp_test 0 hst rfl (fun b40 => ?_) (fun b40 => ?_)
  · replace h := ite_t b40 h
    refine wp_seq_k (fun K6 hK6 => ?_)
    refine wp_reg mixed [] hst (fun _ => .p rfl (op_assign .k) <| .nil _) (by kernel_rfl) (fun n7 a w hst => ?_)
    replace hst : St M w0 26 [(4, tv (.bool false))] [] a w := (hst.pick [0])
    refine hK6 _ _ ?_
    clear hK6 K6
    refine wp_ret ?_
    obtain rfl := Option.some.inj h
    exact ret_st undef hst rfl (.tmp (.t 0 rfl) .nil) (fun g hg => (by cases hg)) rfl
  · replace h := ite_f b40 h
    refine wp_skip ?_
    refine hK3 _ _ ?_
    clear hK3 K3
    refine wp_seq_k (fun K8 hK8 => ?_)
    refine wp_seq_k (fun K9 hK9 => ?_)
    refine wp_reg mixed [] hst (fun _ => .p rfl (op_assign .k) <| .nil _) (by kernel_rfl) (fun n10 a w hst => ?_)
    replace hst : St M w0 26 [(5, tv (.int .i64 (0:Int))), (0, tsl rI a_), (1, tsl rI b_)] [] a w := (hst.pick [0, 2, 3])
    refine hK9 _ _ ?_
    clear hK9 K9
    obtain ⟨e12, he12, h⟩ := bind_some h
    have hJp24 : ∀ (p24 : Unit) a w, (.inl p24) = e12 → St M w0 26 [] [] a w → K8 a w := by
      intro p24 a w he hst
      subst he
      simp only at h
      refine hK8 _ _ ?_
      clear hK8 K8
      refine wp_seq_k (fun K26 hK26 => ?_)
      refine wp_reg mixed [] hst (fun _ => .p rfl (op_assign .k) <| .nil _) (by kernel_rfl) (fun n27 a w hst => ?_)
      replace hst : St M w0 26 [(4, tv (.bool true))] [] a w := (hst.pick [0])
      refine hK26 _ _ ?_
      clear hK26 K26
      refine wp_ret ?_
      obtain rfl := Option.some.inj h
      exact ret_st undef hst rfl (.tmp (.t 0 rfl) .nil) (fun g hg => (by cases hg)) rfl
    have hJp25 : ∀ (p25 : Bool) a w, (.inr p25) = e12 → St M w0 26 [(4, tv (.bool p25))] [] a w → Ret Try.prog Try.f18 M w0 none (fun _ => tv (.bool r)) .ret a w := by
      intro p25 a w he hst
      subst he
      simp only at h
      obtain rfl := Option.some.inj h
      exact ret_st undef hst rfl (.tmp (.t 0 rfl) .nil) (fun g hg => (by cases hg)) rfl
    refine wp_block ?_
    refine wp_loopK _ (fun (s11 : Int) a w => St M w0 26 [(5, tv (.int .i64 s11)), (0, tsl rI a_), (1, tsl rI b_)] [] a w) _ _ he12 (hst.pick [0, 1, 2]) ?_
    clear h
    intro s11 o a w K28 hI h ho hK28
    have hst := hI
    clear hI
    refine wp_seq_k (fun K29 hK29 => ?_)
    refine wp_seq_k (fun K30 hK30 => ?_)
    refine wp_reg mixed [] hst (fun _ => .p rfl (op_move (.t 0 rfl)) <| .p rfl (op_move (.t 2 rfl)) <| .p rfl (op_len Try.underlying22 (.t 0 rfl)) <| .p rfl (op_lss (.t 2 rfl) (.t 0 rfl)) <| .nil _) (by kernel_rfl) (fun n31 a w hst => ?_)
    replace hst : St M w0 26 [(14, tv (.bool (decide (s11 < (a_.length : Int))))), (5, tv (.int .i64 s11)), (0, tsl rI a_), (1, tsl rI b_)] [] a w := (hst.pick [3, 4, 5, 6])
    refine hK30 _ _ ?_
    clear hK30 K30
    refine wp_test 0 hst rfl (fun b39 => ?_) (fun b39 => ?_)
    · replace h := ite_t b39 h
      refine wp_skip ?_
      refine hK29 _ _ ?_
      clear hK29 K29
      refine wp_seq_k (fun K32 hK32 => ?_)
      refine wp_block ?_
      refine wp_seq_k (fun K33 hK33 => ?_)
      obtain ⟨t19, ht19, h⟩ := bind_some h
      obtain ⟨t23, ht23, h⟩ := bind_some h
      refine wp_reg mixed [] hst (fun _ => .p rfl (op_move (.t 2 rfl)) <| .p rfl (op_move (.t 2 rfl)) <| .p rfl (op_index Try.underlying22 tok3 (.t 1 rfl) (.t 0 rfl) ht19) <| .p rfl (op_load tok3 (.t 0 rfl)) <| .p rfl (op_move (.t 7 rfl)) <| .p rfl (op_move (.t 6 rfl)) <| .p rfl (op_index Try.underlying22 tok3 (.t 1 rfl) (.t 0 rfl) ht23) <| .p rfl (op_load tok3 (.t 0 rfl)) <| .p rfl (op_neq (.t 4 rfl) (.t 0 rfl)) <| .nil _) (by kernel_rfl) (fun n34 a w hst => ?_)
      replace hst : St M w0 26 [(25, tv (.bool (t19 != t23))), (5, tv (.int .i64 s11)), (0, tsl rI a_), (1, tsl rI b_)] [] a w := (hst.pick [8, 10, 11, 12])
      refine hK33 _ _ ?_
      clear hK33 K33
      refine wp_test 0 hst rfl (fun b38 => ?_) (fun b38 => ?_)
      · replace h := ite_t b38 h
        refine wp_seq_k (fun K35 hK35 => ?_)
        refine wp_reg mixed [] hst (fun _ => .p rfl (op_assign .k) <| .nil _) (by kernel_rfl) (fun n36 a w hst => ?_)
        replace hst : St M w0 26 [(4, tv (.bool false))] [] a w := (hst.pick [0])
        refine hK35 _ _ ?_
        clear hK35 K35
        refine wp_ret ?_
        exact hJp25 _ _ _ (ho _ (Option.some.inj h).symm) (hst.pick [0])
      · replace h := ite_f b38 h
        refine wp_skip ?_
        refine hK32 _ _ ?_
        clear hK32 K32
        refine wp_reg mixed [] hst (fun _ => .p rfl (op_move (.t 1 rfl)) <| .p rfl (op_add (.t 0 rfl) .k) <| .p rfl (op_assign (.t 0 rfl)) <| .nil _) (by kernel_rfl) (fun n37 a w hst => ?_)
        replace hst : St M w0 26 [(5, tv (.int .i64 (IntKind.i64.wrap (s11 + (1:Int))))), (0, tsl rI a_), (1, tsl rI b_)] [] a w := (hst.pick [2, 4, 5])
        exact hK28 _ _ _ (Option.some.inj h).symm (hst.pick [0, 1, 2])
    · replace h := ite_f b39 h
      refine wp_exit ?_
      exact hJp24 _ _ _ (ho _ (Option.some.inj h).symm) (hst.pick [])

/- diorama/dioramaref27.Within -/
noncomputable def fWithinR (l_ : (List Int)) (most_ : Int) : Option (Bool) := (tailrec (fun (s6 : Int) => ((if (decide (s6 < (l_.length : Int))) = true then (idx l_ s6).bind fun t14 => (opt ((decide (t14 < (0:Int))) == false) (idx l_ s6) default).bind fun t20 => (if ((decide (t14 < (0:Int))) || (decide (t20 > most_))) = true then (some (.inr (.inr false))) else (some (.inl (IntKind.i64.wrap (s6 + (1:Int)))))) else (some (.inr (.inl ())))) : Option ((Int) ⊕ ((Unit) ⊕ (Bool))))) (0:Int)).bind fun (e7 : (Unit) ⊕ (Bool)) => (match e7 with | .inl p19 => (some ((decide ((l_.length : Int) ≥ (1:Int))) && (decide ((l_.length : Int) ≤ (12:Int))))) | .inr p20 => (some p20))
set_option maxRecDepth 100000 in
theorem WithinR_ok {l_ : (List Int)} {most_ : Int} {r : Bool} (h : fWithinR l_ most_ = some r) : FnOk Try.prog 50 [tsl rI l_, tv (.int .i64 most_)] none (fun _ => tv (.bool r)) := by
  unfold fWithinR at h
  refine FnOk.enter Try.func50 rfl Try.ntmps50 (Nat.le_of_ble_eq_true rfl) (fun M w0 a hst => ?_)
  replace hst : St M w0 33 [(0, tsl rI l_), (1, tv (.int .i64 most_))] [] a w0 := hst
  refine wp_seq_k (fun K1 hK1 => ?_)
  refine wp_reg mixed [] hst (fun _ => .p rfl (op_assign .k) <| .nil _) (by kernel_rfl) (fun n2 a w hst => ?_)
  replace hst : St M w0 33 [(0, tsl rI l_), (1, tv (.int .i64 most_))] [] a w := (hst.pick [1, 2])
  refine hK1 _ _ ?_
  clear hK1 K1
  refine wp_seq_k (fun K3 hK3 => ?_)
  refine wp_seq_k (fun K4 hK4 => ?_)
  refine wp_reg mixed [] hst (fun _ => .p rfl (op_assign .k) <| .nil _) (by kernel_rfl) (fun n5 a w hst => ?_)
  replace hst : St M w0 33 [(5, tv (.int .i64 (0:Int))), (0, tsl rI l_), (1, tv (.int .i64 most_))] [] a w := (hst.pick [0, 1, 2])
  refine hK4 _ _ ?_
  clear hK4 K4
  obtain ⟨e7, he7, h⟩ := bind_some h
  have hJp19 : ∀ (p19 : Unit) a w, (.inl p19) = e7 → St M w0 33 [(0, tsl rI l_)] [] a w → K3 a w := by
    intro p19 a w he hst
    subst he
    simp only at h
    refine hK3 _ _ ?_
    clear hK3 K3
    refine wp_seq_k (fun K21 hK21 => ?_)
    refine wp_reg mixed [] hst (fun _ => .p rfl (op_move (.t 0 rfl)) <| .p rfl (op_len Try.underlying22 (.t 0 rfl)) <| .p rfl (op_geq (.t 0 rfl) .k) <| .p rfl (op_move (.t 0 rfl)) <| .g rfl rfl (.b 0 rfl) (fun _ => op_move (.t 4 rfl)) <| .g rfl rfl (.b 1 rfl) (fun hc => op_len Try.underlying22 (.cond (.t 0 rfl) hc)) <| .g rfl rfl (.b 2 rfl) (fun hc => op_leq (.cond (.t 0 rfl) hc) .k) <| .p rfl (op_and (.t 3 rfl) (fun hp => (.cond (.t 0 rfl) (beqT hp)))) <| .p rfl (op_assign (.t 0 rfl)) <| .nil _) (by kernel_rfl) (fun n22 a w hst => ?_)
    replace hst : St M w0 33 [(4, tv (.bool ((decide ((l_.length : Int) ≥ (1:Int))) && (decide ((l_.length : Int) ≤ (12:Int))))))] [] a w := (hst.pick [8])
    refine hK21 _ _ ?_
    clear hK21 K21
    refine wp_ret ?_
    obtain rfl := Option.some.inj h
    exact ret_st undef hst rfl (.tmp (.t 0 rfl) .nil) (fun g hg => (by cases hg)) rfl
  have hJp20 : ∀ (p20 : Bool) a w, (.inr p20) = e7 → St M w0 33 [(4, tv (.bool p20))] [] a w → Ret Try.prog Try.f50 M w0 none (fun _ => tv (.bool r)) .ret a w := by
    intro p20 a w he hst
    subst he
    simp only at h
    obtain rfl := Option.some.inj h
    exact ret_st undef hst rfl (.tmp (.t 0 rfl) .nil) (fun g hg => (by cases hg)) rfl
  refine wp_block ?_
  refine wp_loopK _ (fun (s6 : Int) a w => St M w0 33 [(5, tv (.int .i64 s6)), (0, tsl rI l_), (1, tv (.int .i64 most_))] [] a w) _ _ he7 (hst.pick [0, 1, 2]) ?_
  clear h
  intro s6 o a w K23 hI h ho hK23
  have hst := hI
  clear hI
  refine wp_seq_k (fun K24 hK24 => ?_)
  refine wp_seq_k (fun K25 hK25 => ?_)
  refine wp_reg mixed [] hst (fun _ => .p rfl (op_move (.t 0 rfl)) <| .p rfl (op_move (.t 2 rfl)) <| .p rfl (op_len Try.underlying22 (.t 0 rfl)) <| .p rfl (op_lss (.t 2 rfl) (.t 0 rfl)) <| .nil _) (by kernel_rfl) (fun n26 a w hst => ?_)
  replace hst : St M w0 33 [(9, tv (.bool (decide (s6 < (l_.length : Int))))), (5, tv (.int .i64 s6)), (0, tsl rI l_), (1, tv (.int .i64 most_))] [] a w := (hst.pick [3, 4, 5, 6])
  refine hK25 _ _ ?_
  clear hK25 K25
  refine wp_test 0 hst rfl (fun b34 => ?_) (fun b34 => ?_)
  · replace h := ite_t b34 h
    refine wp_skip ?_
    refine hK24 _ _ ?_
    clear hK24 K24
    refine wp_seq_k (fun K27 hK27 => ?_)
    refine wp_block ?_
    refine wp_seq_k (fun K28 hK28 => ?_)
    obtain ⟨t14, ht14, h⟩ := bind_some h
    obtain ⟨t20, ht20, h⟩ := bind_some h
    refine wp_reg mixed [] hst (fun _ => .p rfl (op_move (.t 2 rfl)) <| .p rfl (op_move (.t 2 rfl)) <| .p rfl (op_index Try.underlying22 tok3 (.t 1 rfl) (.t 0 rfl) ht14) <| .p rfl (op_load tok3 (.t 0 rfl)) <| .p rfl (op_lss (.t 0 rfl) .k) <| .p rfl (op_move (.t 0 rfl)) <| .g rfl rfl (.b 0 rfl) (fun _ => op_move (.t 8 rfl)) <| .g rfl rfl (.b 1 rfl) (fun _ => op_move (.t 8 rfl)) <| .g rfl rfl (.b 2 rfl) (fun hc => op_index Try.underlying22 tok3 (.cond (.t 1 rfl) hc) (.cond (.t 0 rfl) hc) (opt_t ht20 hc)) <| .g rfl rfl (.b 3 rfl) (fun hc => op_load tok3 (.cond (.t 0 rfl) hc)) <| .g rfl rfl (.b 4 rfl) (fun _ => op_move (.t 13 rfl)) <| .g rfl rfl (.b 5 rfl) (fun hc => op_gtr (.cond (.t 1 rfl) hc) (.cond (.t 0 rfl) hc)) <| .p rfl (op_or (.t 6 rfl) (fun hp => (.cond (.t 0 rfl) (beqF hp)))) <| .nil _) (by kernel_rfl) (fun n29 a w hst => ?_)
    replace hst : St M w0 33 [(24, tv (.bool ((decide (t14 < (0:Int))) || (decide (t20 > most_))))), (5, tv (.int .i64 s6)), (0, tsl rI l_), (1, tv (.int .i64 most_))] [] a w := (hst.pick [12, 14, 15, 16])
    refine hK28 _ _ ?_
    clear hK28 K28
    refine wp_test 0 hst rfl (fun b33 => ?_) (fun b33 => ?_)
    · replace h := ite_t b33 h
      refine wp_seq_k (fun K30 hK30 => ?_)
      refine wp_reg mixed [] hst (fun _ => .p rfl (op_assign .k) <| .nil _) (by kernel_rfl) (fun n31 a w hst => ?_)
      replace hst : St M w0 33 [(4, tv (.bool false))] [] a w := (hst.pick [0])
      refine hK30 _ _ ?_
      clear hK30 K30
      refine wp_ret ?_
      exact hJp20 _ _ _ (ho _ (Option.some.inj h).symm) (hst.pick [0])
    · replace h := ite_f b33 h
      refine wp_skip ?_
      refine hK27 _ _ ?_
      clear hK27 K27
      refine wp_reg mixed [] hst (fun _ => .p rfl (op_move (.t 1 rfl)) <| .p rfl (op_add (.t 0 rfl) .k) <| .p rfl (op_assign (.t 0 rfl)) <| .nil _) (by kernel_rfl) (fun n32 a w hst => ?_)
      replace hst : St M w0 33 [(5, tv (.int .i64 (IntKind.i64.wrap (s6 + (1:Int))))), (0, tsl rI l_), (1, tv (.int .i64 most_))] [] a w := (hst.pick [2, 4, 5])
      exact hK23 _ _ _ (Option.some.inj h).symm (hst.pick [0, 1, 2])
  · replace h := ite_f b34 h
    refine wp_exit ?_
    exact hJp19 _ _ _ (ho _ (Option.some.inj h).symm) (hst.pick [2])

/- diorama/dioramaref14.row -/
noncomputable def frow (n_ : Int) (a_ : Int) : Option (Int) := (if (decide (a_ < (0:Int))) = true then (some n_) else (some a_))
set_option maxRecDepth 100000 in
theorem row_ok {n_ : Int} {a_ : Int} {r : Int} (h : frow n_ a_ = some r) : FnOk Try.prog 66 [tv (.int .i64 n_), tv (.int .i64 a_)] none (fun _ => tv (.int .i64 r)) := by
  unfold frow at h
  refine FnOk.enter Try.func66 rfl Try.ntmps66 (Nat.le_of_ble_eq_true rfl) (fun M w0 a hst => ?_)
  replace hst : St M w0 9 [(0, tv (.int .i64 n_)), (1, tv (.int .i64 a_))] [] a w0 := hst
  refine wp_seq_k (fun K1 hK1 => ?_)
  refine wp_reg mixed [] hst (fun _ => .p rfl (op_assign .k) <| .nil _) (by kernel_rfl) (fun n2 a w hst => ?_)
  replace hst : St M w0 9 [(0, tv (.int .i64 n_)), (1, tv (.int .i64 a_))] [] a w := (hst.pick [1, 2])
  refine hK1 _ _ ?_
  clear hK1 K1
  refine wp_seq_k (fun K3 hK3 => ?_)
  refine wp_seq_k (fun K4 hK4 => ?_)
  refine wp_reg mixed [] hst (fun _ => .p rfl (op_move (.t 1 rfl)) <| .p rfl (op_lss (.t 0 rfl) .k) <| .nil _) (by kernel_rfl) (fun n5 a w hst => ?_)
  replace hst : St M w0 9 [(6, tv (.bool (decide (a_ < (0:Int))))), (0, tv (.int .i64 n_)), (1, tv (.int .i64 a_))] [] a w := (hst.pick [1, 2, 3])
  refine hK4 _ _ ?_
  clear hK4 K4
  refine wp_test 0 hst rfl (fun b10 => ?_) (fun b10 => ?_)
  · replace h := ite_t b10 h
    refine wp_seq_k (fun K6 hK6 => ?_)
    refine wp_reg mixed [] hst (fun _ => .p rfl (op_move (.t 1 rfl)) <| .p rfl (op_assign (.t 0 rfl)) <| .nil _) (by kernel_rfl) (fun n7 a w hst => ?_)
    replace hst : St M w0 9 [(4, tv (.int .i64 n_))] [] a w := (hst.pick [1])
    refine hK6 _ _ ?_
    clear hK6 K6
    refine wp_ret ?_
    obtain rfl := Option.some.inj h
    exact ret_st undef hst rfl (.tmp (.t 0 rfl) .nil) (fun g hg => (by cases hg)) rfl
  · replace h := ite_f b10 h
    refine wp_skip ?_
    refine hK3 _ _ ?_
    clear hK3 K3
    refine wp_seq_k (fun K8 hK8 => ?_)
    refine wp_reg mixed [] hst (fun _ => .p rfl (op_move (.t 2 rfl)) <| .p rfl (op_assign (.t 0 rfl)) <| .nil _) (by kernel_rfl) (fun n9 a w hst => ?_)
    replace hst : St M w0 9 [(4, tv (.int .i64 a_))] [] a w := (hst.pick [1])
    refine hK8 _ _ ?_
    clear hK8 K8
    refine wp_ret ?_
    obtain rfl := Option.some.inj h
    exact ret_st undef hst rfl (.tmp (.t 0 rfl) .nil) (fun g hg => (by cases hg)) rfl

/- diorama/ratio.size -/
noncomputable def fsize (n_ : Int) : Option (Int) := (if (decide (n_ < (0:Int))) = true then (some (IntKind.u64.wrap (0 - (IntKind.u64.wrap n_)))) else (some (IntKind.u64.wrap n_)))
set_option maxRecDepth 100000 in
theorem size_ok {n_ : Int} {r : Int} (h : fsize n_ = some r) : FnOk Try.prog 56 [tv (.int .i64 n_)] none (fun _ => tv (.int .u64 r)) := by
  unfold fsize at h
  refine FnOk.enter Try.func56 rfl Try.ntmps56 (Nat.le_of_ble_eq_true rfl) (fun M w0 a hst => ?_)
  replace hst : St M w0 10 [(0, tv (.int .i64 n_))] [] a w0 := hst
  refine wp_seq_k (fun K1 hK1 => ?_)
  refine wp_reg mixed [] hst (fun _ => .p rfl (op_assign .k) <| .nil _) (by kernel_rfl) (fun n2 a w hst => ?_)
  replace hst : St M w0 10 [(0, tv (.int .i64 n_))] [] a w := (hst.pick [1])
  refine hK1 _ _ ?_
  clear hK1 K1
  refine wp_seq_k (fun K3 hK3 => ?_)
  refine wp_seq_k (fun K4 hK4 => ?_)
  refine wp_reg mixed [] hst (fun _ => .p rfl (op_move (.t 0 rfl)) <| .p rfl (op_lss (.t 0 rfl) .k) <| .nil _) (by kernel_rfl) (fun n5 a w hst => ?_)
  replace hst : St M w0 10 [(4, tv (.bool (decide (n_ < (0:Int))))), (0, tv (.int .i64 n_))] [] a w := (hst.pick [1, 2])
  refine hK4 _ _ ?_
  clear hK4 K4
  refine wp_test 0 hst rfl (fun b10 => ?_) (fun b10 => ?_)
  · replace h := ite_t b10 h
    refine wp_seq_k (fun K6 hK6 => ?_)
    refine wp_reg mixed [] hst (fun _ => .p rfl (op_move (.t 1 rfl)) <| .p rfl (op_conv Try.underlying3 Try.underlying78 (.t 0 rfl)) <| .p rfl (op_neg (.t 0 rfl)) <| .p rfl (op_assign (.t 0 rfl)) <| .nil _) (by kernel_rfl) (fun n7 a w hst => ?_)
    replace hst : St M w0 10 [(2, tv (.int .u64 (IntKind.u64.wrap (0 - (IntKind.u64.wrap n_)))))] [] a w := (hst.pick [3])
    refine hK6 _ _ ?_
    clear hK6 K6
    refine wp_ret ?_
    obtain rfl := Option.some.inj h
    exact ret_st undef hst rfl (.tmp (.t 0 rfl) .nil) (fun g hg => (by cases hg)) rfl
  · replace h := ite_f b10 h
    refine wp_skip ?_
    refine hK3 _ _ ?_
    clear hK3 K3
    refine wp_seq_k (fun K8 hK8 => ?_)
    refine wp_reg mixed [] hst (fun _ => .p rfl (op_move (.t 1 rfl)) <| .p rfl (op_conv Try.underlying3 Try.underlying78 (.t 0 rfl)) <| .p rfl (op_assign (.t 0 rfl)) <| .nil _) (by kernel_rfl) (fun n9 a w hst => ?_)
    replace hst : St M w0 10 [(2, tv (.int .u64 (IntKind.u64.wrap n_)))] [] a w := (hst.pick [2])
    refine hK8 _ _ ?_
    clear hK8 K8
    refine wp_ret ?_
    obtain rfl := Option.some.inj h
    exact ret_st undef hst rfl (.tmp (.t 0 rfl) .nil) (fun g hg => (by cases hg)) rfl

/- diorama/dioramaref04.Size -/
noncomputable def fSizeR (n_ : Int) : Option (Int) := (if (decide (n_ < (0:Int))) = true then (some (IntKind.u64.wrap ((IntKind.u64.wrap (IntKind.i64.wrap (0 - (IntKind.i64.wrap (n_ + (1:Int)))))) + (1:Int)))) else (some (IntKind.u64.wrap n_)))
set_option maxRecDepth 100000 in
theorem SizeR_ok {n_ : Int} {r : Int} (h : fSizeR n_ = some r) : FnOk Try.prog 79 [tv (.int .i64 n_)] none (fun _ => tv (.int .u64 r)) := by
  unfold fSizeR at h
  refine FnOk.enter Try.func79 rfl Try.ntmps79 (Nat.le_of_ble_eq_true rfl) (fun M w0 a hst => ?_)
  replace hst : St M w0 12 [(0, tv (.int .i64 n_))] [] a w0 := hst
  refine wp_seq_k (fun K1 hK1 => ?_)
  refine wp_reg mixed [] hst (fun _ => .p rfl (op_assign .k) <| .nil _) (by kernel_rfl) (fun n2 a w hst => ?_)
  replace hst : St M w0 12 [(0, tv (.int .i64 n_))] [] a w := (hst.pick [1])
  refine hK1 _ _ ?_
  clear hK1 K1
  refine wp_seq_k (fun K3 hK3 => ?_)
  refine wp_seq_k (fun K4 hK4 => ?_)
  refine wp_reg mixed [] hst (fun _ => .p rfl (op_move (.t 0 rfl)) <| .p rfl (op_lss (.t 0 rfl) .k) <| .nil _) (by kernel_rfl) (fun n5 a w hst => ?_)
  replace hst : St M w0 12 [(4, tv (.bool (decide (n_ < (0:Int))))), (0, tv (.int .i64 n_))] [] a w := (hst.pick [1, 2])
  refine hK4 _ _ ?_
  clear hK4 K4
  refine wp_test 0 hst rfl (fun b10 => ?_) (fun b10 => ?_)
  · replace h := ite_t b10 h
    refine wp_seq_k (fun K6 hK6 => ?_)
    refine wp_reg mixed [] hst (fun _ => .p rfl (op_move (.t 1 rfl)) <| .p rfl (op_add (.t 0 rfl) .k) <| .p rfl (op_neg (.t 0 rfl)) <| .p rfl (op_conv Try.underlying3 Try.underlying78 (.t 0 rfl)) <| .p rfl (op_add (.t 0 rfl) .k) <| .p rfl (op_assign (.t 0 rfl)) <| .nil _) (by kernel_rfl) (fun n7 a w hst => ?_)
    replace hst : St M w0 12 [(2, tv (.int .u64 (IntKind.u64.wrap ((IntKind.u64.wrap (IntKind.i64.wrap (0 - (IntKind.i64.wrap (n_ + (1:Int)))))) + (1:Int)))))] [] a w := (hst.pick [5])
    refine hK6 _ _ ?_
    clear hK6 K6
    refine wp_ret ?_
    obtain rfl := Option.some.inj h
    exact ret_st undef hst rfl (.tmp (.t 0 rfl) .nil) (fun g hg => (by cases hg)) rfl
  · replace h := ite_f b10 h
    refine wp_skip ?_
    refine hK3 _ _ ?_
    clear hK3 K3
    refine wp_seq_k (fun K8 hK8 => ?_)
    refine wp_reg mixed [] hst (fun _ => .p rfl (op_move (.t 1 rfl)) <| .p rfl (op_conv Try.underlying3 Try.underlying78 (.t 0 rfl)) <| .p rfl (op_assign (.t 0 rfl)) <| .nil _) (by kernel_rfl) (fun n9 a w hst => ?_)
    replace hst : St M w0 12 [(2, tv (.int .u64 (IntKind.u64.wrap n_)))] [] a w := (hst.pick [2])
    refine hK8 _ _ ?_
    clear hK8 K8
    refine wp_ret ?_
    obtain rfl := Option.some.inj h
    exact ret_st undef hst rfl (.tmp (.t 0 rfl) .nil) (fun g hg => (by cases hg)) rfl

/- diorama/dioramaref04.Common -/
noncomputable def fCommon (a_ : Int) (b_ : Int) : Option (Int) := (tailrec (fun (s4 : Int × Int) => ((if (s4.2 != (0:Int)) = true then (nz s4.2).bind fun _ => (some (.inl (s4.2, (Int.tmod s4.1 s4.2)))) else (some (.inr s4.1))) : Option ((Int × Int) ⊕ ((Int))))) (a_, b_)).bind fun (p15 : (Int)) => (some p15)
set_option maxRecDepth 100000 in
theorem Common_ok {a_ : Int} {b_ : Int} {r : Int} (h : fCommon a_ b_ = some r) : FnOk Try.prog 78 [tv (.int .u64 a_), tv (.int .u64 b_)] none (fun _ => tv (.int .u64 r)) := by
  unfold fCommon at h
  refine FnOk.enter Try.func78 rfl Try.ntmps78 (Nat.le_of_ble_eq_true rfl) (fun M w0 a hst => ?_)
  replace hst : St M w0 14 [(0, tv (.int .u64 a_)), (1, tv (.int .u64 b_))] [] a w0 := hst
  refine wp_seq_k (fun K1 hK1 => ?_)
  refine wp_reg mixed [] hst (fun _ => .p rfl (op_assign .k) <| .nil _) (by kernel_rfl) (fun n2 a w hst => ?_)
  replace hst : St M w0 14 [(0, tv (.int .u64 a_)), (1, tv (.int .u64 b_))] [] a w := (hst.pick [1, 2])
  refine hK1 _ _ ?_
  clear hK1 K1
  refine wp_seq_k (fun K3 hK3 => ?_)
  obtain ⟨e5, he5, h⟩ := bind_some h
  have hJp15 : ∀ (p15 : Int) a w, p15 = e5 → St M w0 14 [(0, tv (.int .u64 p15))] [] a w → K3 a w := by
    intro p15 a w he hst
    subst he
    refine hK3 _ _ ?_
    clear hK3 K3
    refine wp_seq_k (fun K16 hK16 => ?_)
    refine wp_reg mixed [] hst (fun _ => .p rfl (op_move (.t 0 rfl)) <| .p rfl (op_assign (.t 0 rfl)) <| .nil _) (by kernel_rfl) (fun n17 a w hst => ?_)
    replace hst : St M w0 14 [(4, tv (.int .u64 p15))] [] a w := (hst.pick [1])
    refine hK16 _ _ ?_
    clear hK16 K16
    refine wp_ret ?_
    obtain rfl := Option.some.inj h
    exact ret_st undef hst rfl (.tmp (.t 0 rfl) .nil) (fun g hg => (by cases hg)) rfl
  refine wp_block ?_
  refine wp_loopK _ (fun (s4 : Int × Int) a w => St M w0 14 [(0, tv (.int .u64 s4.1)), (1, tv (.int .u64 s4.2))] [] a w) _ _ he5 (hst.pick [0, 1]) ?_
  clear h
  intro s4 o a w K18 hI h ho hK18
  have hst := hI
  clear hI
  refine wp_seq_k (fun K19 hK19 => ?_)
  refine wp_seq_k (fun K20 hK20 => ?_)
  refine wp_reg mixed [] hst (fun _ => .p rfl (op_move (.t 1 rfl)) <| .p rfl (op_neq (.t 0 rfl) .k) <| .nil _) (by kernel_rfl) (fun n21 a w hst => ?_)
  replace hst : St M w0 14 [(7, tv (.bool (s4.2 != (0:Int)))), (0, tv (.int .u64 s4.1)), (1, tv (.int .u64 s4.2))] [] a w := (hst.pick [1, 2, 3])
  refine hK20 _ _ ?_
  clear hK20 K20
  refine wp_test 0 hst rfl (fun b27 => ?_) (fun b27 => ?_)
  · replace h := ite_t b27 h
    refine wp_skip ?_
    refine hK19 _ _ ?_
    clear hK19 K19
    refine wp_block ?_
    refine wp_seq_k (fun K22 hK22 => ?_)
    obtain ⟨u10, hu10, h⟩ := bind_some h
    refine wp_reg mixed [] hst (fun _ => .p rfl (op_move (.t 1 rfl)) <| .p rfl (op_move (.t 3 rfl)) <| .p rfl (op_rem (.t 1 rfl) (.t 0 rfl) (nz_ne hu10)) <| .p rfl (op_assign (.t 0 rfl)) <| .nil _) (by kernel_rfl) (fun n23 a w hst => ?_)
    replace hst : St M w0 14 [(5, tv (.int .u64 (Int.tmod s4.1 s4.2))), (1, tv (.int .u64 s4.2))] [] a w := (hst.pick [3, 6])
    refine hK22 _ _ ?_
    clear hK22 K22
    refine wp_seq_k (fun K24 hK24 => ?_)
    refine wp_reg mixed [] hst (fun _ => .p rfl (op_move (.t 1 rfl)) <| .p rfl (op_assign (.t 0 rfl)) <| .nil _) (by kernel_rfl) (fun n25 a w hst => ?_)
    replace hst : St M w0 14 [(0, tv (.int .u64 s4.2)), (5, tv (.int .u64 (Int.tmod s4.1 s4.2)))] [] a w := (hst.pick [1, 2])
    refine hK24 _ _ ?_
    clear hK24 K24
    refine wp_reg mixed [] hst (fun _ => .p rfl (op_move (.t 1 rfl)) <| .p rfl (op_assign (.t 0 rfl)) <| .nil _) (by kernel_rfl) (fun n26 a w hst => ?_)
    replace hst : St M w0 14 [(1, tv (.int .u64 (Int.tmod s4.1 s4.2))), (0, tv (.int .u64 s4.2))] [] a w := (hst.pick [1, 2])
    exact hK18 _ _ _ (Option.some.inj h).symm (hst.pick [1, 0])
  · replace h := ite_f b27 h
    refine wp_exit ?_
    exact hJp15 _ _ _ (ho _ (Option.some.inj h).symm) (hst.pick [1])

/- diorama/dioramaref27.Made -/
noncomputable def fMade27 (l_ : (List Int)) (n_ : Int) (most_ : Int) : Option ((List Int)) := (tailrec (fun (s9 : Int × List Int) => ((if (decide (s9.1 < n_)) = true then (fAt l_ s9.1 most_).bind fun t18 => (rm (s9.2.length + [t18].length)).bind fun _ => (some (.inl ((IntKind.i64.wrap (s9.1 + (1:Int))), (s9.2 ++ [t18])))) else (some (.inr s9.2))) : Option ((Int × List Int) ⊕ ((List Int))))) ((0:Int), ([] : List Int))).bind fun (p19 : (List Int)) => (fSumR p19).bind fun t22 => ((if ((t22 == (0:Int)) && (decide (n_ > (0:Int)))) = true then (fAt l_ (0:Int) n_).bind fun t31 => (setAt p19 t31 (1:Int)).bind fun t32s => (some t32s) else (some p19))).bind fun (p24 : List Int) => (some p24)
set_option maxRecDepth 100000 in
theorem Made27_ok {l_ : (List Int)} {n_ : Int} {most_ : Int} {r : (List Int)} (h : fMade27 l_ n_ most_ = some r) : FnOk Try.prog 12 [tsl rI l_, tv (.int .i64 n_), tv (.int .i64 most_)] (some fun v => own rI 3 r v) (fun v => tv v) := by
  unfold fMade27 at h
  refine FnOk.enter Try.func12 rfl Try.ntmps12 (Nat.le_of_ble_eq_true rfl) (fun M w0 a hst => ?_)
  replace hst : St M w0 34 [(0, tsl rI l_), (1, tv (.int .i64 n_)), (2, tv (.int .i64 most_))] [] a w0 := hst
  refine wp_seq_k (fun K1 hK1 => ?_)
  refine wp_reg mixed [] hst (fun _ => .p rfl (op_assign .k) <| .nil _) (by kernel_rfl) (fun n2 a w hst => ?_)
  replace hst : St M w0 34 [(0, tsl rI l_), (1, tv (.int .i64 n_)), (2, tv (.int .i64 most_))] [] a w := (hst.pick [1, 2, 3])
  refine hK1 _ _ ?_
  clear hK1 K1
  refine wp_seq_k (fun K3 hK3 => ?_)
  refine wp_reg mixed [] hst (fun _ => .p rfl (op_assign .k) <| .nil _) (by kernel_rfl) (fun n4 a w hst => ?_)
  replace hst : St M w0 34 [(7, tv (.slice none 0 0)), (0, tsl rI l_), (1, tv (.int .i64 n_)), (2, tv (.int .i64 most_))] [] a w := (hst.pick [0, 1, 2, 3])
  replace hst := hst.nil rI 3
  refine hK3 _ _ ?_
  clear hK3 K3
  refine wp_seq_k (fun K6 hK6 => ?_)
  refine wp_seq_k (fun K7 hK7 => ?_)
  refine wp_reg mixed [] hst (fun _ => .p rfl (op_assign .k) <| .nil _) (by kernel_rfl) (fun n8 a w hst => ?_)
  replace hst : St M w0 34 [(8, tv (.int .i64 (0:Int))), (7, tv (.slice none 0 0)), (0, tsl rI l_), (1, tv (.int .i64 n_)), (2, tv (.int .i64 most_))] [own rI 3 ([] : List Int) (.slice none 0 0)] a w := (hst.pick [0, 1, 2, 3, 4])
  refine hK7 _ _ ?_
  clear hK7 K7
  obtain ⟨e11, he11, h⟩ := bind_some h
  have hJp19 : ∀ (p19 : List Int) (v20 : Value) a w, p19 = e11 → St M w0 34 [(7, tv v20), (0, tsl rI l_), (1, tv (.int .i64 n_))] [own rI 3 p19 v20] a w → K6 a w := by
    intro p19 v20 a w he hst
    subst he
    refine hK6 _ _ ?_
    clear hK6 K6
    refine wp_seq_k (fun K21 hK21 => ?_)
    refine wp_seq_k (fun K22 hK22 => ?_)
    obtain ⟨t22, ht22, h⟩ := bind_some h
    refine wp_reg mixed [] hst (fun _ => .p rfl (op_move (.t 0 rfl)) <| .u [0] rfl rfl (op_callFU [own rI 3 p19 v20] call45 (SumR_ok ht22) (.cons (.own (.t 0 rfl) (.head _)) <| .nil) (fun _ => flat_tv) (fun h hh => (by cases hh))) <| .p rfl (op_eql (.t 0 rfl) .k) <| .p rfl (op_move (.t 0 rfl)) <| .g rfl rfl (.b 0 rfl) (fun _ => op_move (.t 6 rfl)) <| .g rfl rfl (.b 1 rfl) (fun hc => op_gtr (.cond (.t 0 rfl) hc) .k) <| .p rfl (op_and (.t 2 rfl) (fun hp => (.cond (.t 0 rfl) (beqT hp)))) <| .nil _) (by kernel_rfl) (fun n23 a w hst => ?_)
    replace hst : St M w0 34 [(21, tv v20), (27, tv (.bool ((t22 == (0:Int)) && (decide (n_ > (0:Int)))))), (7, tv v20), (0, tsl rI l_), (1, tv (.int .i64 n_))] [own rI 3 p19 v20] a w := (hst.pick [0, 6, 7, 8, 9])
    refine hK22 _ _ ?_
    clear hK22 K22
    obtain ⟨p24, hp24, h⟩ := bind_some h
    have hJp24 : ∀ (v27 : Value) a w, St M w0 34 [(7, tv v27)] [own rI 3 p24 v27] a w → K21 a w := by
      intro v27 a w hst
      refine hK21 _ _ ?_
      clear hK21 K21
      refine wp_seq_k (fun K28 hK28 => ?_)
      refine wp_reg mixed [] hst (fun _ => .p rfl (op_move (.t 0 rfl)) <| .p rfl (op_assign (.t 0 rfl)) <| .nil _) (by kernel_rfl) (fun n29 a w hst => ?_)
      replace hst : St M w0 34 [(33, tv v27), (6, tv v27), (7, tv v27)] [own rI 3 p24 v27] a w := (hst.pick [0, 1, 2])
      refine hK28 _ _ ?_
      clear hK28 K28
      refine wp_ret ?_
      obtain rfl := Option.some.inj h
      exact ret_st v27 hst rfl (.tmp (.t 1 rfl) .nil) (fun g hg => (by cases hg; exact ⟨0, rfl⟩)) rfl
    replace h := hp24
    clear hp24
    refine wp_test 1 hst rfl (fun b31 => ?_) (fun b31 => ?_)
    · replace h := ite_t b31 h
      obtain ⟨t31, ht31, h⟩ := bind_some h
      obtain ⟨t32s, ht32s, h⟩ := bind_some h
      refine wp_reg mixed [(1, fun _ => own rI 3 t32s v20)] hst (fun _ => .p rfl (op_move (.t 2 rfl)) <| .p rfl (op_move (.t 4 rfl)) <| .p rfl (op_move (.t 6 rfl)) <| .p rfl (op_callF call44 (At_ok ht31) (.cons (.of (.t 1 rfl)) <| .cons (.of .k) <| .cons (.of (.t 0 rfl)) <| .nil)) <| .u [0] rfl rfl (op_indexOs Try.underlying22 tok3 (.t 3 rfl) (.t 0 rfl) ht32s) <| .e 0 1 [] rfl rfl rfl rfl (op_storeO tok3 (.t 0 rfl) .k ht32s) <| .nil _) (by kernel_rfl) (fun n30 a w hst => ?_)
      replace hst : St M w0 34 [(28, tv v20), (21, tv v20), (7, tv v20)] [own rI 3 t32s v20] a w := (hst.pick [0, 5, 7])
      obtain rfl := Option.some.inj h
      exact hJp24 v20 _ _ (hst.pick [2])
    · replace h := ite_f b31 h
      refine wp_skip ?_
      obtain rfl := Option.some.inj h
      exact hJp24 v20 _ _ (hst.pick [2])
  refine wp_block ?_
  refine wp_loopK _ (fun (s9 : Int × List Int) a w => ∃ v10 : Value, St M w0 34 [(8, tv (.int .i64 s9.1)), (7, tv v10), (0, tsl rI l_), (1, tv (.int .i64 n_)), (2, tv (.int .i64 most_))] [own rI 3 s9.2 v10] a w) _ _ he11 ⟨(.slice none 0 0), hst.pick [0, 1, 2, 3, 4]⟩ ?_
  clear h
  intro s9 o a w K32 hI h ho hK32
  obtain ⟨v10, hst⟩ := hI
  refine wp_seq_k (fun K33 hK33 => ?_)
  refine wp_seq_k (fun K34 hK34 => ?_)
  refine wp_reg mixed [] hst (fun _ => .p rfl (op_move (.t 0 rfl)) <| .p rfl (op_move (.t 4 rfl)) <| .p rfl (op_lss (.t 1 rfl) (.t 0 rfl)) <| .nil _) (by kernel_rfl) (fun n35 a w hst => ?_)
  replace hst : St M w0 34 [(11, tv (.bool (decide (s9.1 < n_)))), (8, tv (.int .i64 s9.1)), (7, tv v10), (0, tsl rI l_), (1, tv (.int .i64 n_)), (2, tv (.int .i64 most_))] [own rI 3 s9.2 v10] a w := (hst.pick [2, 3, 4, 5, 6, 7])
  refine hK34 _ _ ?_
  clear hK34 K34
  refine wp_test 0 hst rfl (fun b39 => ?_) (fun b39 => ?_)
  · replace h := ite_t b39 h
    refine wp_skip ?_
    refine hK33 _ _ ?_
    clear hK33 K33
    refine wp_seq_k (fun K36 hK36 => ?_)
    refine wp_block ?_
    obtain ⟨t18, ht18, h⟩ := bind_some h
    obtain ⟨u20, hu20, h⟩ := bind_some h
    refine wp_reg mixed [(1, fun v => own rI 3 (s9.2 ++ [t18]) v)] hst (fun _ => .p rfl (op_move (.t 2 rfl)) <| .p rfl (op_move (.t 4 rfl)) <| .p rfl (op_move (.t 3 rfl)) <| .p rfl (op_move (.t 8 rfl)) <| .p rfl (op_callF call44 (At_ok ht18) (.cons (.of (.t 2 rfl)) <| .cons (.of (.t 1 rfl)) <| .cons (.of (.t 0 rfl)) <| .nil)) <| .p rfl (op_buildSl (R := rI) (us := [t18]) Try.underlying22 tok3 (.cons (.t 0 rfl) <| .nil _) rfl (Nat.le_of_ble_eq_true rfl)) <| .e 0 1 [] rfl rfl rfl rfl (op_append (R := rI) Try.underlying22 tok3 (Nat.le_of_ble_eq_true rfl) (.t 5 rfl) (.t 0 rfl) hu20) <| .pd (f := fun v => tv v) 1 rfl (op_assign (.t 0 rfl)) <| .nil _) (by kernel_rfl) (fun n37 a w hst => ?_)
    replace hst : St M w0 34 [(20, tv (n37 1)), (7, tv (n37 1)), (8, tv (.int .i64 s9.1)), (0, tsl rI l_), (1, tv (.int .i64 n_)), (2, tv (.int .i64 most_))] [own rI 3 (s9.2 ++ [t18]) (n37 1)] a w := (hst.pick [6, 7, 9, 10, 11, 12])
    refine hK36 _ _ ?_
    clear hK36 K36
    refine wp_reg mixed [] hst (fun _ => .p rfl (op_move (.t 2 rfl)) <| .p rfl (op_add (.t 0 rfl) .k) <| .p rfl (op_assign (.t 0 rfl)) <| .nil _) (by kernel_rfl) (fun n38 a w hst => ?_)
    replace hst : St M w0 34 [(8, tv (.int .i64 (IntKind.i64.wrap (s9.1 + (1:Int))))), (20, tv (n37 1)), (7, tv (n37 1)), (0, tsl rI l_), (1, tv (.int .i64 n_)), (2, tv (.int .i64 most_))] [own rI 3 (s9.2 ++ [t18]) (n37 1)] a w := (hst.pick [2, 3, 4, 5, 6, 7])
    exact hK32 _ _ _ (Option.some.inj h).symm ⟨(n37 1), hst.pick [0, 2, 3, 4, 5]⟩
  · replace h := ite_f b39 h
    refine wp_exit ?_
    exact hJp19 _ v10 _ _ (ho _ (Option.some.inj h).symm) (hst.pick [2, 3, 4])

/- slices.Clone[[]int,int] -/
noncomputable def fClone (s_ : (List Int)) : Option ((List Int)) := (rm (([] : List Int).length + s_.length)).bind fun _ => (some (([] : List Int) ++ s_))
set_option maxRecDepth 100000 in
theorem Clone_ok {s_ : (List Int)} {r : (List Int)} (h : fClone s_ = some r) : FnOk Try.prog 47 [tsl rI s_] (some fun v => own rI 3 r v) (fun v => tv v) := by
  unfold fClone at h
  refine FnOk.enter Try.func47 rfl Try.ntmps47 (Nat.le_of_ble_eq_true rfl) (fun M w0 a hst => ?_)
  replace hst : St M w0 8 [(0, tsl rI s_)] [] a w0 := hst
  refine wp_seq_k (fun K1 hK1 => ?_)
  refine wp_reg mixed [] hst (fun _ => .p rfl (op_assign .k) <| .nil _) (by kernel_rfl) (fun n2 a w hst => ?_)
  replace hst : St M w0 8 [(0, tsl rI s_)] [] a w := (hst.pick [1])
  refine hK1 _ _ ?_
  clear hK1 K1
  refine wp_seq_k (fun K3 hK3 => ?_)
  refine wp_seq_k (fun K4 hK4 => ?_)
  refine wp_reg mixed [] hst (fun _ => .p rfl (op_move (.t 0 rfl)) <| .p rfl (op_eqNil' Try.underlying22 (.t 0 rfl)) <| .nil _) (by kernel_rfl) (fun n5 a w hst => ?_)
  replace hst : St M w0 8 [(4, tnil s_ false), (0, tsl rI s_)] [] a w := (hst.pick [1, 2])
  refine hK4 _ _ ?_
  clear hK4 K4
  refine wp_test_nil 0 hst rfl (fun b12 => ?_) ?_
  · replace h : (some ([] : List Int)) = some r := by
      obtain ⟨_, _, h⟩ := bind_some h
      rw [b12] at h
      exact h
    refine wp_seq_k (fun K6 hK6 => ?_)
    refine wp_reg mixed [] hst (fun _ => .p rfl (op_assign .k) <| .nil _) (by kernel_rfl) (fun n7 a w hst => ?_)
    replace hst : St M w0 8 [(2, tv (.slice none 0 0))] [] a w := (hst.pick [0])
    replace hst := hst.nil rI 3
    refine hK6 _ _ ?_
    clear hK6 K6
    refine wp_ret ?_
    obtain rfl := Option.some.inj h
    exact ret_st (.slice none 0 0) hst rfl (.tmp (.t 0 rfl) .nil) (fun g hg => (by cases hg; exact ⟨0, rfl⟩)) rfl
  · refine wp_skip ?_
    refine hK3 _ _ ?_
    clear hK3 K3
    refine wp_seq_k (fun K9 hK9 => ?_)
    obtain ⟨u7, hu7, h⟩ := bind_some h
    refine wp_reg mixed [(0, fun v => own rI 3 ([] : List Int) v), (1, fun v => own rI 3 (([] : List Int) ++ s_) v)] hst (fun _ => .m 0 [] rfl rfl rfl (op_buildSlO (R := rI) (us := ([] : List Int)) Try.underlying22 tok3 (.nil _) rfl (Nat.le_of_ble_eq_true rfl) (Nat.le_of_ble_eq_true rfl)) <| .p rfl (op_move (.t 2 rfl)) <| .e 0 1 [] rfl rfl rfl rfl (op_append (R := rI) Try.underlying22 tok3 (Nat.le_of_ble_eq_true rfl) (.t 1 rfl) (.t 0 rfl) hu7) <| .pd (f := fun v => tv v) 1 rfl (op_assign (.t 0 rfl)) <| .nil _) (by kernel_rfl) (fun n10 a w hst => ?_)
    replace hst : St M w0 8 [(7, tv (n10 1)), (2, tv (n10 1))] [own rI 3 (([] : List Int) ++ s_) (n10 1)] a w := (hst.pick [2, 3])
    refine hK9 _ _ ?_
    clear hK9 K9
    refine wp_ret ?_
    obtain rfl := Option.some.inj h
    exact ret_st (n10 1) hst rfl (.tmp (.t 1 rfl) .nil) (fun g hg => (by cases hg; exact ⟨0, rfl⟩)) rfl


end Go.Proofs.Ytjniiejgccdhiaa
