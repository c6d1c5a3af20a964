/- Go functions as Lean functions, and the proofs that they compute them, written by a program. No condition. -/
import Derived.Test.YtjniiejgccdhiaaGenB
namespace Go.Proofs.Ytjniiejgccdhiaa
open Go.Sim

/- diorama/learn.gcd$1 -/
noncomputable def fgcd1S (self : Int → Int → Option (Int)) (a_ : Int) (b_ : Int) : Option (Int) := (if (b_ == (0:Int)) = true then (some a_) else (nz b_).bind fun _ => (self b_ (Int.tmod a_ b_)).bind fun t14 => (some t14))
set_option maxRecDepth 100000 in
theorem gcd1_okS {q : Value} {self : Int → Int → Option (Int)} (hself : ∀ x0 x1 r, self x0 x1 = some r → FnOk Try.prog 81 [tv (.int .i64 x0), tv (.int .i64 x1), tself 81 q] none (fun _ => tv (.int .i64 r))) {a_ : Int} {b_ : Int} {r : Int} (h : fgcd1S self a_ b_ = some r) : FnOk Try.prog 81 [tv (.int .i64 a_), tv (.int .i64 b_), tself 81 q] none (fun _ => tv (.int .i64 r)) := by
  unfold fgcd1S at h
  refine FnOk.enter Try.func81 rfl Try.ntmps81 (Nat.le_of_ble_eq_true rfl) (fun M w0 a hst => ?_)
  replace hst : St M w0 15 [(0, tv (.int .i64 a_)), (1, tv (.int .i64 b_)), (2, tself 81 q)] [] a w0 := hst
  refine wp_seq_k (fun K1 hK1 => ?_)
  refine wp_reg mixed [] hst (fun _ => .p rfl (op_assign .k) <| .nil _) (by kernel_rfl) (fun n2 a w hst => ?_)
  replace hst : St M w0 15 [(0, tv (.int .i64 a_)), (1, tv (.int .i64 b_)), (2, tself 81 q)] [] a w := (hst.pick [1, 2, 3])
  refine hK1 _ _ ?_
  clear hK1 K1
  refine wp_seq_k (fun K3 hK3 => ?_)
  refine wp_seq_k (fun K4 hK4 => ?_)
  refine wp_reg mixed [] hst (fun _ => .p rfl (op_move (.t 1 rfl)) <| .p rfl (op_eql (.t 0 rfl) .k) <| .nil _) (by kernel_rfl) (fun n5 a w hst => ?_)
  replace hst : St M w0 15 [(7, tv (.bool (b_ == (0:Int)))), (0, tv (.int .i64 a_)), (1, tv (.int .i64 b_)), (2, tself 81 q)] [] a w := (hst.pick [1, 2, 3, 4])
  refine hK4 _ _ ?_
  clear hK4 K4
  refine wp_test 0 hst rfl (fun b10 => ?_) (fun b10 => ?_)
  · replace h := ite_t b10 h
    refine wp_seq_k (fun K6 hK6 => ?_)
    refine wp_reg mixed [] hst (fun _ => .p rfl (op_move (.t 1 rfl)) <| .p rfl (op_assign (.t 0 rfl)) <| .nil _) (by kernel_rfl) (fun n7 a w hst => ?_)
    replace hst : St M w0 15 [(5, tv (.int .i64 a_))] [] a w := (hst.pick [1])
    refine hK6 _ _ ?_
    clear hK6 K6
    refine wp_ret ?_
    obtain rfl := Option.some.inj h
    exact ret_st undef hst rfl (.tmp (.t 0 rfl) .nil) (fun g hg => (by cases hg)) rfl
  · replace h := ite_f b10 h
    refine wp_skip ?_
    refine hK3 _ _ ?_
    clear hK3 K3
    refine wp_seq_k (fun K8 hK8 => ?_)
    obtain ⟨u13, hu13, h⟩ := bind_some h
    obtain ⟨t14, ht14, h⟩ := bind_some h
    refine wp_reg mixed [] hst (fun _ => .p rfl (op_loadSelf tok24 (.t 3 rfl)) <| .p rfl (op_move (.t 3 rfl)) <| .p rfl (op_move (.t 3 rfl)) <| .p rfl (op_move (.t 5 rfl)) <| .p rfl (op_rem (.t 1 rfl) (.t 0 rfl) (nz_ne hu13)) <| .p rfl (op_callRec call81 (hself _ _ _ ht14) (.t 4 rfl) (.cons (.of (.t 3 rfl)) <| .cons (.of (.t 0 rfl)) <| .nil)) <| .p rfl (op_assign (.t 0 rfl)) <| .nil _) (by kernel_rfl) (fun n9 a w hst => ?_)
    replace hst : St M w0 15 [(5, tv (.int .i64 t14))] [] a w := (hst.pick [6])
    refine hK8 _ _ ?_
    clear hK8 K8
    refine wp_ret ?_
    obtain rfl := Option.some.inj h
    exact ret_st undef hst rfl (.tmp (.t 0 rfl) .nil) (fun g hg => (by cases hg)) rfl
noncomputable def ggcd1 : Nat → Int → Int → Option (Int)
  | 0 => fun _ _ => none
  | n + 1 => fgcd1S (ggcd1 n)
theorem ggcd1_ok {q : Value} : ∀ (n : Nat) (x0 x1 : Int) (r : Int), ggcd1 n x0 x1 = some r → FnOk Try.prog 81 [tv (.int .i64 x0), tv (.int .i64 x1), tself 81 q] none (fun _ => tv (.int .i64 r)) := by
  intro n
  induction n with
  | zero => intro x0 x1 r h; cases h
  | succ n ih => intro x0 x1 r h; exact gcd1_okS ih h
noncomputable def fgcd1 (x0 x1 : Int) : Option (Int) := ggcd1 (x1.natAbs + 2) x0 x1
theorem gcd1_ok {q : Value} {x0 x1 : Int} {r : Int} (h : fgcd1 x0 x1 = some r) : FnOk Try.prog 81 [tv (.int .i64 x0), tv (.int .i64 x1), tself 81 q] none (fun _ => tv (.int .i64 r)) := ggcd1_ok _ _ _ _ h

/- diorama/learn.gcd -/
noncomputable def fgcd (l_ : (List Int)) : Option (Int) := (tailrec (fun (s13 : Int × Int) => ((if (decide (s13.1 < (l_.length : Int))) = true then (idx l_ s13.1).bind fun t12 => (fgcd1 t12 s13.2).bind fun t17 => (some (.inl ((IntKind.i64.wrap (s13.1 + (1:Int))), t17))) else (some (.inr s13.2))) : Option ((Int × Int) ⊕ ((Int))))) ((0:Int), (0:Int))).bind fun (p24 : (Int)) => (some p24)
set_option maxRecDepth 100000 in
theorem gcd_ok {l_ : (List Int)} {r : Int} (h : fgcd l_ = some r) : FnOk Try.prog 58 [tsl rI l_] none (fun _ => tv (.int .i64 r)) := by
  unfold fgcd at h
  refine FnOk.enter Try.func58 rfl Try.ntmps58 (Nat.le_of_ble_eq_true rfl) (fun M w0 a hst => ?_)
  replace hst : St M w0 20 [(0, tsl rI l_)] [] a w0 := hst
  refine wp_seq_k (fun K1 hK1 => ?_)
  refine wp_reg mixed [] hst (fun _ => .p rfl (op_assign .k) <| .nil _) (by kernel_rfl) (fun n2 a w hst => ?_)
  replace hst : St M w0 20 [(0, tsl rI l_)] [] a w := (hst.pick [1])
  refine hK1 _ _ ?_
  clear hK1 K1
  refine wp_seq_k (fun K3 hK3 => ?_)
  refine wp_reg mixed [(0, fun v => box (rClo.cs (none : Option (FuncId × List Value))) v)] hst (fun _ => .m 0 [] rfl rfl rfl (op_alloc (R := rClo) (a := (none : Option (FuncId × List Value))) tok24 zok24) <| .nil _) (by kernel_rfl) (fun n4 a w hst => ?_)
  replace hst : St M w0 20 [(3, tv (n4 0)), (0, tsl rI l_)] [box (rClo.cs (none : Option (FuncId × List Value))) (n4 0)] a w := (hst.pick [0, 1])
  refine hK3 _ _ ?_
  clear hK3 K3
  refine wp_seq_k (fun K6 hK6 => ?_)
  refine wp_reg mixed [(1, fun _ => box (rClo.cs (some (81, [(n4 0)]))) (n4 0))] hst (fun _ => .p rfl (op_clo1 (.t 0 rfl)) <| .e 0 1 [] rfl rfl rfl rfl (op_storeB (R := rClo) (a := (some (81, [(n4 0)]))) tok24 (.t 1 rfl) (.t 0 rfl) (Nat.le_of_ble_eq_true rfl)) <| .nil _) (by kernel_rfl) (fun n7 a w hst => ?_)
  replace hst : St M w0 20 [(3, tv (n4 0)), (0, tsl rI l_)] [box (rClo.cs (some (81, [(n4 0)]))) (n4 0)] a w := (hst.pick [1, 2])
  refine hK6 _ _ ?_
  clear hK6 K6
  refine wp_seq_k (fun K8 hK8 => ?_)
  refine wp_reg mixed [] hst (fun _ => .p rfl (op_assign .k) <| .nil _) (by kernel_rfl) (fun n9 a w hst => ?_)
  replace hst : St M w0 20 [(4, tv (.int .i64 (0:Int))), (3, tv (n4 0)), (0, tsl rI l_)] [box (rClo.cs (some (81, [(n4 0)]))) (n4 0)] a w := (hst.pick [0, 1, 2])
  refine hK8 _ _ ?_
  clear hK8 K8
  refine wp_seq_k (fun K10 hK10 => ?_)
  refine wp_seq_k (fun K11 hK11 => ?_)
  refine wp_reg mixed [] hst (fun _ => .p rfl (op_move (.t 2 rfl)) <| .p rfl (op_len Try.underlying22 (.t 0 rfl)) <| .p rfl (op_move .k) <| .nil _) (by kernel_rfl) (fun n12 a w hst => ?_)
  replace hst : St M w0 20 [(8, tsl rI l_), (9, tv (.int .i64 (l_.length : Int))), (10, tv (.int .i64 (0:Int))), (4, tv (.int .i64 (0:Int))), (3, tv (n4 0))] [box (rClo.cs (some (81, [(n4 0)]))) (n4 0)] a w := (hst.pick [0, 1, 2, 3, 4])
  refine hK11 _ _ ?_
  clear hK11 K11
  obtain ⟨e14, he14, h⟩ := bind_some h
  have hJp24 : ∀ (p24 : Int) a w, p24 = e14 → St M w0 20 [(4, tv (.int .i64 p24))] [] a w → K10 a w := by
    intro p24 a w he hst
    subst he
    refine hK10 _ _ ?_
    clear hK10 K10
    refine wp_seq_k (fun K25 hK25 => ?_)
    refine wp_reg mixed [] hst (fun _ => .p rfl (op_move (.t 0 rfl)) <| .p rfl (op_assign (.t 0 rfl)) <| .nil _) (by kernel_rfl) (fun n26 a w hst => ?_)
    replace hst : St M w0 20 [(2, tv (.int .i64 p24))] [] a w := (hst.pick [1])
    refine hK25 _ _ ?_
    clear hK25 K25
    refine wp_ret ?_
    obtain rfl := Option.some.inj h
    exact ret_st undef hst rfl (.tmp (.t 0 rfl) .nil) (fun g hg => (by cases hg)) rfl
  refine wp_block ?_
  refine wp_loopK _ (fun (s13 : Int × Int) a w => St M w0 20 [(8, tsl rI l_), (9, tv (.int .i64 (l_.length : Int))), (10, tv (.int .i64 s13.1)), (4, tv (.int .i64 s13.2)), (3, tv (n4 0))] [box (rClo.cs (some (81, [(n4 0)]))) (n4 0)] a w) _ _ he14 (hst.pick [0, 1, 2, 3, 4]) ?_
  clear h
  intro s13 o a w K27 hI h ho hK27
  have hst := hI
  clear hI
  refine wp_seq_k (fun K28 hK28 => ?_)
  refine wp_reg mixed [] hst (fun _ => .p rfl (op_lss (.t 2 rfl) (.t 1 rfl)) <| .nil _) (by kernel_rfl) (fun n29 a w hst => ?_)
  replace hst : St M w0 20 [(11, tv (.bool (decide (s13.1 < (l_.length : Int))))), (8, tsl rI l_), (9, tv (.int .i64 (l_.length : Int))), (10, tv (.int .i64 s13.1)), (4, tv (.int .i64 s13.2)), (3, tv (n4 0))] [box (rClo.cs (some (81, [(n4 0)]))) (n4 0)] a w := (hst.pick [0, 1, 2, 3, 4, 5])
  refine hK28 _ _ ?_
  clear hK28 K28
  refine wp_seq_k (fun K30 hK30 => ?_)
  refine wp_test 0 hst rfl (fun b36 => ?_) (fun b36 => ?_)
  · replace h := ite_t b36 h
    refine wp_skip ?_
    refine hK30 _ _ ?_
    clear hK30 K30
    refine wp_seq_k (fun K31 hK31 => ?_)
    refine wp_block ?_
    refine wp_seq_k (fun K32 hK32 => ?_)
    obtain ⟨t12, ht12, h⟩ := bind_some h
    refine wp_reg mixed [] hst (fun _ => .p rfl (op_index Try.underlying22 tok3 (.t 1 rfl) (.t 3 rfl) ht12) <| .p rfl (op_load tok3 (.t 0 rfl)) <| .p rfl (op_assign (.t 0 rfl)) <| .nil _) (by kernel_rfl) (fun n33 a w hst => ?_)
    replace hst : St M w0 20 [(6, tv (.int .i64 t12)), (8, tsl rI l_), (9, tv (.int .i64 (l_.length : Int))), (10, tv (.int .i64 s13.1)), (4, tv (.int .i64 s13.2)), (3, tv (n4 0))] [box (rClo.cs (some (81, [(n4 0)]))) (n4 0)] a w := (hst.pick [2, 4, 5, 6, 7, 8])
    refine hK32 _ _ ?_
    clear hK32 K32
    obtain ⟨t17, ht17, h⟩ := bind_some h
    refine wp_reg mixed [] hst (fun _ => .u [0] rfl rfl (op_loadB (R := rClo) (u := (some (81, [(n4 0)]))) tok24 (.t 5 rfl) rfl) <| .p rfl (op_move (.t 1 rfl)) <| .p rfl (op_move (.t 6 rfl)) <| .u [0] rfl rfl (op_callSelf call81 (gcd1_ok (q := (n4 0)) ht17) flat_tv (.t 2 rfl) (.cons (.of (.t 1 rfl)) <| .cons (.of (.t 0 rfl)) <| .nil)) <| .p rfl (op_assign (.t 0 rfl)) <| .nil _) (by kernel_rfl) (fun n34 a w hst => ?_)
    replace hst : St M w0 20 [(4, tv (.int .i64 t17)), (8, tsl rI l_), (9, tv (.int .i64 (l_.length : Int))), (10, tv (.int .i64 s13.1)), (3, tv (n4 0))] [box (rClo.cs (some (81, [(n4 0)]))) (n4 0)] a w := (hst.pick [4, 6, 7, 8, 9])
    refine hK31 _ _ ?_
    clear hK31 K31
    refine wp_reg mixed [] hst (fun _ => .p rfl (op_add (.t 3 rfl) .k) <| .p rfl (op_move (.t 0 rfl)) <| .nil _) (by kernel_rfl) (fun n35 a w hst => ?_)
    replace hst : St M w0 20 [(10, tv (.int .i64 (IntKind.i64.wrap (s13.1 + (1:Int))))), (4, tv (.int .i64 t17)), (8, tsl rI l_), (9, tv (.int .i64 (l_.length : Int))), (3, tv (n4 0))] [box (rClo.cs (some (81, [(n4 0)]))) (n4 0)] a w := (hst.pick [1, 2, 3, 4, 5])
    exact hK27 _ _ _ (Option.some.inj h).symm (hst.pick [2, 3, 0, 1, 4])
  · replace h := ite_f b36 h
    refine wp_exit ?_
    exact hJp24 _ _ _ (ho _ (Option.some.inj h).symm) ((hst.pick [4]).keepA [false])

/- diorama/ratio.gcd$1 -/
noncomputable def fgcdU1S (self : Int → Int → Option (Int)) (a_ : Int) (b_ : Int) : Option (Int) := (if (b_ == (0:Int)) = true then (some a_) else (nz b_).bind fun _ => (self b_ (Int.tmod a_ b_)).bind fun t14 => (some t14))
set_option maxRecDepth 100000 in
theorem gcdU1_okS {q : Value} {self : Int → Int → Option (Int)} (hself : ∀ x0 x1 r, self x0 x1 = some r → FnOk Try.prog 80 [tv (.int .u64 x0), tv (.int .u64 x1), tself 80 q] none (fun _ => tv (.int .u64 r))) {a_ : Int} {b_ : Int} {r : Int} (h : fgcdU1S self a_ b_ = some r) : FnOk Try.prog 80 [tv (.int .u64 a_), tv (.int .u64 b_), tself 80 q] none (fun _ => tv (.int .u64 r)) := by
  unfold fgcdU1S at h
  refine FnOk.enter Try.func80 rfl Try.ntmps80 (Nat.le_of_ble_eq_true rfl) (fun M w0 a hst => ?_)
  replace hst : St M w0 15 [(0, tv (.int .u64 a_)), (1, tv (.int .u64 b_)), (2, tself 80 q)] [] a w0 := hst
  refine wp_seq_k (fun K1 hK1 => ?_)
  refine wp_reg mixed [] hst (fun _ => .p rfl (op_assign .k) <| .nil _) (by kernel_rfl) (fun n2 a w hst => ?_)
  replace hst : St M w0 15 [(0, tv (.int .u64 a_)), (1, tv (.int .u64 b_)), (2, tself 80 q)] [] a w := (hst.pick [1, 2, 3])
  refine hK1 _ _ ?_
  clear hK1 K1
  refine wp_seq_k (fun K3 hK3 => ?_)
  refine wp_seq_k (fun K4 hK4 => ?_)
  refine wp_reg mixed [] hst (fun _ => .p rfl (op_move (.t 1 rfl)) <| .p rfl (op_eql (.t 0 rfl) .k) <| .nil _) (by kernel_rfl) (fun n5 a w hst => ?_)
  replace hst : St M w0 15 [(7, tv (.bool (b_ == (0:Int)))), (0, tv (.int .u64 a_)), (1, tv (.int .u64 b_)), (2, tself 80 q)] [] a w := (hst.pick [1, 2, 3, 4])
  refine hK4 _ _ ?_
  clear hK4 K4
  refine wp_test 0 hst rfl (fun b10 => ?_) (fun b10 => ?_)
  · replace h := ite_t b10 h
    refine wp_seq_k (fun K6 hK6 => ?_)
    refine wp_reg mixed [] hst (fun _ => .p rfl (op_move (.t 1 rfl)) <| .p rfl (op_assign (.t 0 rfl)) <| .nil _) (by kernel_rfl) (fun n7 a w hst => ?_)
    replace hst : St M w0 15 [(5, tv (.int .u64 a_))] [] a w := (hst.pick [1])
    refine hK6 _ _ ?_
    clear hK6 K6
    refine wp_ret ?_
    obtain rfl := Option.some.inj h
    exact ret_st undef hst rfl (.tmp (.t 0 rfl) .nil) (fun g hg => (by cases hg)) rfl
  · replace h := ite_f b10 h
    refine wp_skip ?_
    refine hK3 _ _ ?_
    clear hK3 K3
    refine wp_seq_k (fun K8 hK8 => ?_)
    obtain ⟨u13, hu13, h⟩ := bind_some h
    obtain ⟨t14, ht14, h⟩ := bind_some h
    refine wp_reg mixed [] hst (fun _ => .p rfl (op_loadSelf tok80 (.t 3 rfl)) <| .p rfl (op_move (.t 3 rfl)) <| .p rfl (op_move (.t 3 rfl)) <| .p rfl (op_move (.t 5 rfl)) <| .p rfl (op_rem (.t 1 rfl) (.t 0 rfl) (nz_ne hu13)) <| .p rfl (op_callRec call80 (hself _ _ _ ht14) (.t 4 rfl) (.cons (.of (.t 3 rfl)) <| .cons (.of (.t 0 rfl)) <| .nil)) <| .p rfl (op_assign (.t 0 rfl)) <| .nil _) (by kernel_rfl) (fun n9 a w hst => ?_)
    replace hst : St M w0 15 [(5, tv (.int .u64 t14))] [] a w := (hst.pick [6])
    refine hK8 _ _ ?_
    clear hK8 K8
    refine wp_ret ?_
    obtain rfl := Option.some.inj h
    exact ret_st undef hst rfl (.tmp (.t 0 rfl) .nil) (fun g hg => (by cases hg)) rfl
noncomputable def ggcdU1 : Nat → Int → Int → Option (Int)
  | 0 => fun _ _ => none
  | n + 1 => fgcdU1S (ggcdU1 n)
theorem ggcdU1_ok {q : Value} : ∀ (n : Nat) (x0 x1 : Int) (r : Int), ggcdU1 n x0 x1 = some r → FnOk Try.prog 80 [tv (.int .u64 x0), tv (.int .u64 x1), tself 80 q] none (fun _ => tv (.int .u64 r)) := by
  intro n
  induction n with
  | zero => intro x0 x1 r h; cases h
  | succ n ih => intro x0 x1 r h; exact gcdU1_okS ih h
noncomputable def fgcdU1 (x0 x1 : Int) : Option (Int) := ggcdU1 (x1.natAbs + 2) x0 x1
theorem gcdU1_ok {q : Value} {x0 x1 : Int} {r : Int} (h : fgcdU1 x0 x1 = some r) : FnOk Try.prog 80 [tv (.int .u64 x0), tv (.int .u64 x1), tself 80 q] none (fun _ => tv (.int .u64 r)) := ggcdU1_ok _ _ _ _ h

/- diorama/ratio.gcd -/
noncomputable def fgcdU (a_ : Int) (b_ : Int) : Option (Int) := (fgcdU1 a_ b_).bind fun t10 => (some t10)
set_option maxRecDepth 100000 in
theorem gcdU_ok {a_ : Int} {b_ : Int} {r : Int} (h : fgcdU a_ b_ = some r) : FnOk Try.prog 57 [tv (.int .u64 a_), tv (.int .u64 b_)] none (fun _ => tv (.int .u64 r)) := by
  unfold fgcdU at h
  refine FnOk.enter Try.func57 rfl Try.ntmps57 (Nat.le_of_ble_eq_true rfl) (fun M w0 a hst => ?_)
  replace hst : St M w0 11 [(0, tv (.int .u64 a_)), (1, tv (.int .u64 b_))] [] a w0 := hst
  refine wp_seq_k (fun K1 hK1 => ?_)
  refine wp_reg mixed [] hst (fun _ => .p rfl (op_assign .k) <| .nil _) (by kernel_rfl) (fun n2 a w hst => ?_)
  replace hst : St M w0 11 [(0, tv (.int .u64 a_)), (1, tv (.int .u64 b_))] [] a w := (hst.pick [1, 2])
  refine hK1 _ _ ?_
  clear hK1 K1
  refine wp_seq_k (fun K3 hK3 => ?_)
  refine wp_reg mixed [(0, fun v => box (rClo.cs (none : Option (FuncId × List Value))) v)] hst (fun _ => .m 0 [] rfl rfl rfl (op_alloc (R := rClo) (a := (none : Option (FuncId × List Value))) tok80 zok80) <| .nil _) (by kernel_rfl) (fun n4 a w hst => ?_)
  replace hst : St M w0 11 [(5, tv (n4 0)), (0, tv (.int .u64 a_)), (1, tv (.int .u64 b_))] [box (rClo.cs (none : Option (FuncId × List Value))) (n4 0)] a w := (hst.pick [0, 1, 2])
  refine hK3 _ _ ?_
  clear hK3 K3
  refine wp_seq_k (fun K6 hK6 => ?_)
  refine wp_reg mixed [(1, fun _ => box (rClo.cs (some (80, [(n4 0)]))) (n4 0))] hst (fun _ => .p rfl (op_clo1 (.t 0 rfl)) <| .e 0 1 [] rfl rfl rfl rfl (op_storeB (R := rClo) (a := (some (80, [(n4 0)]))) tok80 (.t 1 rfl) (.t 0 rfl) (Nat.le_of_ble_eq_true rfl)) <| .nil _) (by kernel_rfl) (fun n7 a w hst => ?_)
  replace hst : St M w0 11 [(5, tv (n4 0)), (0, tv (.int .u64 a_)), (1, tv (.int .u64 b_))] [box (rClo.cs (some (80, [(n4 0)]))) (n4 0)] a w := (hst.pick [1, 2, 3])
  refine hK6 _ _ ?_
  clear hK6 K6
  refine wp_seq_k (fun K8 hK8 => ?_)
  obtain ⟨t10, ht10, h⟩ := bind_some h
  refine wp_reg mixed [] hst (fun _ => .u [0] rfl rfl (op_loadB (R := rClo) (u := (some (80, [(n4 0)]))) tok80 (.t 0 rfl) rfl) <| .p rfl (op_move (.t 2 rfl)) <| .p rfl (op_move (.t 4 rfl)) <| .u [0] rfl rfl (op_callSelf call80 (gcdU1_ok (q := (n4 0)) ht10) flat_tv (.t 2 rfl) (.cons (.of (.t 1 rfl)) <| .cons (.of (.t 0 rfl)) <| .nil)) <| .p rfl (op_assign (.t 0 rfl)) <| .nil _) (by kernel_rfl) (fun n9 a w hst => ?_)
  replace hst : St M w0 11 [(4, tv (.int .u64 t10))] [] a w := (hst.pick [4]).keepA [false]
  refine hK8 _ _ ?_
  clear hK8 K8
  refine wp_ret ?_
  obtain rfl := Option.some.inj h
  exact ret_st undef hst rfl (.tmp (.t 0 rfl) .nil) (fun g hg => (by cases hg)) rfl

/- diorama/learn.lowest -/
noncomputable def flowest (l_ : (List Int)) : Option ((List Int)) := (fClone l_).bind fun t7 => (fgcd l_).bind fun t9 => ((if (decide (t9 > (1:Int))) = true then (tailrec (fun (s44 : Int × List Int) => ((if (decide (s44.1 < (t7.length : Int))) = true then (idx s44.2 s44.1).bind fun t19 => (nz t9).bind fun _ => (setAt s44.2 s44.1 (IntKind.i64.wrap (Int.tdiv t19 t9))).bind fun t23s => (some (.inl ((IntKind.i64.wrap (s44.1 + (1:Int))), t23s))) else (some (.inr s44.2))) : Option ((Int × List Int) ⊕ ((List Int))))) ((0:Int), t7)).bind fun (p56 : (List Int)) => (some p56) else (some t7))).bind fun (p11 : List Int) => (some p11)
set_option maxRecDepth 100000 in
theorem lowest_ok {l_ : (List Int)} {r : (List Int)} (h : flowest l_ = some r) : FnOk Try.prog 49 [tsl rI l_] (some fun v => own rI 3 r v) (fun v => tv v) := by
  unfold flowest at h
  refine FnOk.enter Try.func49 rfl Try.ntmps49 (Nat.le_of_ble_eq_true rfl) (fun M w0 a hst => ?_)
  replace hst : St M w0 26 [(0, tsl rI l_)] [] a w0 := hst
  refine wp_seq_k (fun K1 hK1 => ?_)
  refine wp_reg mixed [] hst (fun _ => .p rfl (op_assign .k) <| .nil _) (by kernel_rfl) (fun n2 a w hst => ?_)
  replace hst : St M w0 26 [(0, tsl rI l_)] [] a w := (hst.pick [1])
  refine hK1 _ _ ?_
  clear hK1 K1
  refine wp_seq_k (fun K3 hK3 => ?_)
  obtain ⟨t7, ht7, h⟩ := bind_some h
  refine wp_reg mixed [(0, fun v => own rI 3 t7 v)] hst (fun _ => .p rfl (op_move (.t 0 rfl)) <| .m 0 [] rfl rfl rfl (op_callF call47 (Clone_ok ht7) (.cons (.of (.t 0 rfl)) <| .nil)) <| .pd (f := fun v => tv v) 0 rfl (op_assign (.t 0 rfl)) <| .nil _) (by kernel_rfl) (fun n4 a w hst => ?_)
  replace hst : St M w0 26 [(7, tv (n4 0)), (3, tv (n4 0)), (0, tsl rI l_)] [own rI 3 t7 (n4 0)] a w := (hst.pick [1, 2, 3])
  refine hK3 _ _ ?_
  clear hK3 K3
  refine wp_seq_k (fun K6 hK6 => ?_)
  refine wp_seq_k (fun K7 hK7 => ?_)
  obtain ⟨t9, ht9, h⟩ := bind_some h
  refine wp_reg mixed [] hst (fun _ => .p rfl (op_move (.t 2 rfl)) <| .p rfl (op_callF call58 (gcd_ok ht9) (.cons (.of (.t 0 rfl)) <| .nil)) <| .p rfl (op_assign (.t 0 rfl)) <| .nil _) (by kernel_rfl) (fun n8 a w hst => ?_)
  replace hst : St M w0 26 [(4, tv (.int .i64 t9)), (7, tv (n4 0)), (3, tv (n4 0))] [own rI 3 t7 (n4 0)] a w := (hst.pick [2, 3, 4])
  refine hK7 _ _ ?_
  clear hK7 K7
  refine wp_seq_k (fun K9 hK9 => ?_)
  refine wp_reg mixed [] hst (fun _ => .p rfl (op_move (.t 0 rfl)) <| .p rfl (op_gtr (.t 0 rfl) .k) <| .nil _) (by kernel_rfl) (fun n10 a w hst => ?_)
  replace hst : St M w0 26 [(11, tv (.bool (decide (t9 > (1:Int))))), (4, tv (.int .i64 t9)), (7, tv (n4 0)), (3, tv (n4 0))] [own rI 3 t7 (n4 0)] a w := (hst.pick [1, 2, 3, 4])
  refine hK9 _ _ ?_
  clear hK9 K9
  obtain ⟨p11, hp11, h⟩ := bind_some h
  have hJp11 : ∀ (v39 : Value) a w, St M w0 26 [(3, tv v39)] [own rI 3 p11 v39] a w → K6 a w := by
    intro v39 a w hst
    refine hK6 _ _ ?_
    clear hK6 K6
    refine wp_seq_k (fun K40 hK40 => ?_)
    refine wp_reg mixed [] hst (fun _ => .p rfl (op_move (.t 0 rfl)) <| .p rfl (op_assign (.t 0 rfl)) <| .nil _) (by kernel_rfl) (fun n41 a w hst => ?_)
    replace hst : St M w0 26 [(25, tv v39), (2, tv v39), (3, tv v39)] [own rI 3 p11 v39] a w := (hst.pick [0, 1, 2])
    refine hK40 _ _ ?_
    clear hK40 K40
    refine wp_ret ?_
    obtain rfl := Option.some.inj h
    exact ret_st v39 hst rfl (.tmp (.t 1 rfl) .nil) (fun g hg => (by cases hg; exact ⟨0, rfl⟩)) rfl
  replace h := hp11
  clear hp11
  refine wp_test 0 hst rfl (fun b68 => ?_) (fun b68 => ?_)
  · replace h := ite_t b68 h
    refine wp_seq_k (fun K42 hK42 => ?_)
    refine wp_reg mixed [] hst (fun _ => .p rfl (op_move (.t 3 rfl)) <| .u [0] rfl rfl (op_lenO Try.underlying22 (.t 0 rfl)) <| .p rfl (op_move .k) <| .nil _) (by kernel_rfl) (fun n43 a w hst => ?_)
    replace hst : St M w0 26 [(12, tv (n4 0)), (13, tv (.int .i64 (t7.length : Int))), (14, tv (.int .i64 (0:Int))), (4, tv (.int .i64 t9)), (7, tv (n4 0)), (3, tv (n4 0))] [own rI 3 t7 (n4 0)] a w := (hst.pick [0, 1, 2, 4, 5, 6])
    refine hK42 _ _ ?_
    clear hK42 K42
    obtain ⟨e46, he46, h⟩ := bind_some h
    have hJp56 : ∀ (p56 : List Int) (v57 : Value) a w, p56 = e46 → St M w0 26 [(3, tv v57)] [own rI 3 p56 v57] a w → K6 a w := by
      intro p56 v57 a w he hst
      subst he
      obtain rfl := Option.some.inj h
      exact hJp11 v57 _ _ (hst.pick [0])
    refine wp_block ?_
    refine wp_loopK _ (fun (s44 : Int × List Int) a w => ∃ v45 : Value, St M w0 26 [(13, tv (.int .i64 (t7.length : Int))), (14, tv (.int .i64 s44.1)), (4, tv (.int .i64 t9)), (3, tv v45)] [own rI 3 s44.2 v45] a w) _ _ he46 ⟨(n4 0), hst.pick [1, 2, 3, 5]⟩ ?_
    clear h
    intro s44 o a w K58 hI h ho hK58
    obtain ⟨v45, hst⟩ := hI
    refine wp_seq_k (fun K59 hK59 => ?_)
    refine wp_reg mixed [] hst (fun _ => .p rfl (op_lss (.t 1 rfl) (.t 0 rfl)) <| .nil _) (by kernel_rfl) (fun n60 a w hst => ?_)
    replace hst : St M w0 26 [(15, tv (.bool (decide (s44.1 < (t7.length : Int))))), (13, tv (.int .i64 (t7.length : Int))), (14, tv (.int .i64 s44.1)), (4, tv (.int .i64 t9)), (3, tv v45)] [own rI 3 s44.2 v45] a w := (hst.pick [0, 1, 2, 3, 4])
    refine hK59 _ _ ?_
    clear hK59 K59
    refine wp_seq_k (fun K61 hK61 => ?_)
    refine wp_test 0 hst rfl (fun b67 => ?_) (fun b67 => ?_)
    · replace h := ite_t b67 h
      refine wp_skip ?_
      refine hK61 _ _ ?_
      clear hK61 K61
      refine wp_seq_k (fun K62 hK62 => ?_)
      refine wp_block ?_
      refine wp_seq_k (fun K63 hK63 => ?_)
      refine wp_reg mixed [] hst (fun _ => .p rfl (op_move (.t 2 rfl)) <| .p rfl (op_assign (.t 0 rfl)) <| .nil _) (by kernel_rfl) (fun n64 a w hst => ?_)
      replace hst : St M w0 26 [(5, tv (.int .i64 s44.1)), (13, tv (.int .i64 (t7.length : Int))), (14, tv (.int .i64 s44.1)), (4, tv (.int .i64 t9)), (3, tv v45)] [own rI 3 s44.2 v45] a w := (hst.pick [1, 3, 4, 5, 6])
      refine hK63 _ _ ?_
      clear hK63 K63
      obtain ⟨t19, ht19, h⟩ := bind_some h
      obtain ⟨u22, hu22, h⟩ := bind_some h
      obtain ⟨t23s, ht23s, h⟩ := bind_some h
      refine wp_reg mixed [(1, fun _ => own rI 3 t23s v45)] hst (fun _ => .p rfl (op_move (.t 4 rfl)) <| .p rfl (op_move (.t 1 rfl)) <| .u [0] rfl rfl (op_indexOi Try.underlying22 tok3 (.t 1 rfl) (.t 0 rfl) ht19) <| .u [0] rfl rfl (op_loadO tok3 (.t 0 rfl) ht19) <| .p rfl (op_move (.t 7 rfl)) <| .p rfl (op_quo (.t 1 rfl) (.t 0 rfl) (nz_ne hu22)) <| .u [0] rfl rfl (op_indexOs Try.underlying22 tok3 (.t 5 rfl) (.t 4 rfl) ht23s) <| .e 0 1 [] rfl rfl rfl rfl (op_storeO tok3 (.t 0 rfl) (.t 1 rfl) ht23s) <| .nil _) (by kernel_rfl) (fun n65 a w hst => ?_)
      replace hst : St M w0 26 [(17, tv v45), (13, tv (.int .i64 (t7.length : Int))), (14, tv (.int .i64 s44.1)), (4, tv (.int .i64 t9)), (3, tv v45)] [own rI 3 t23s v45] a w := (hst.pick [0, 8, 9, 10, 11])
      refine hK62 _ _ ?_
      clear hK62 K62
      refine wp_reg mixed [] hst (fun _ => .p rfl (op_add (.t 2 rfl) .k) <| .p rfl (op_move (.t 0 rfl)) <| .nil _) (by kernel_rfl) (fun n66 a w hst => ?_)
      replace hst : St M w0 26 [(14, tv (.int .i64 (IntKind.i64.wrap (s44.1 + (1:Int))))), (17, tv v45), (13, tv (.int .i64 (t7.length : Int))), (4, tv (.int .i64 t9)), (3, tv v45)] [own rI 3 t23s v45] a w := (hst.pick [1, 2, 3, 4, 5])
      exact hK58 _ _ _ (Option.some.inj h).symm ⟨v45, hst.pick [2, 0, 3, 4]⟩
    · replace h := ite_f b67 h
      refine wp_exit ?_
      exact hJp56 _ v45 _ _ (ho _ (Option.some.inj h).symm) (hst.pick [4])
  · replace h := ite_f b68 h
    refine wp_skip ?_
    obtain rfl := Option.some.inj h
    exact hJp11 (n4 0) _ _ (hst.pick [3])

/- diorama/learn.Weights -/
noncomputable def fWeights (counts_ : (List Int)) (smooth_ : Int) : Option ((List Int) × Int) := (fwithin counts_ (524288:Int)).bind fun t9 => (if (((!t9) || (decide (smooth_ < (0:Int)))) || (decide (smooth_ > (1024:Int)))) = true then (some (([] : List Int), (5:Int))) else (fClone counts_).bind fun t20 => (tailrec (fun (s15 : Int × List Int) => ((if (decide (s15.1 < (t20.length : Int))) = true then (idx s15.2 s15.1).bind fun t28 => (setAt s15.2 s15.1 (IntKind.i64.wrap (t28 + smooth_))).bind fun t32s => (some (.inl ((IntKind.i64.wrap (s15.1 + (1:Int))), t32s))) else (some (.inr s15.2))) : Option ((Int × List Int) ⊕ ((List Int))))) ((0:Int), t20)).bind fun (p27 : (List Int)) => (fsum p27).bind fun t35 => (if (t35 == (0:Int)) = true then (some (([] : List Int), (5:Int))) else (flowest p27).bind fun t38 => (some (t38, (0:Int)))))
set_option maxRecDepth 100000 in
theorem Weights_ok {counts_ : (List Int)} {smooth_ : Int} {r : (List Int) × Int} (h : fWeights counts_ smooth_ = some r) : FnOk Try.prog 16 [tsl rI counts_, tv (.int .i64 smooth_)] (some fun v => own rI 3 r.1 v) (fun v => ttup [tv v, tv (.int .i64 r.2)]) := by
  unfold fWeights at h
  refine FnOk.enter Try.func16 rfl Try.ntmps16 (Nat.le_of_ble_eq_true rfl) (fun M w0 a hst => ?_)
  replace hst : St M w0 39 [(0, tsl rI counts_), (1, tv (.int .i64 smooth_))] [] a w0 := hst
  refine wp_seq_k (fun K1 hK1 => ?_)
  refine wp_reg mixed [] hst (fun _ => .p rfl (op_assign .k) <| .p rfl (op_assign .k) <| .nil _) (by kernel_rfl) (fun n2 a w hst => ?_)
  replace hst : St M w0 39 [(0, tsl rI counts_), (1, tv (.int .i64 smooth_))] [] a w := (hst.pick [2, 3])
  refine hK1 _ _ ?_
  clear hK1 K1
  refine wp_seq_k (fun K3 hK3 => ?_)
  refine wp_seq_k (fun K4 hK4 => ?_)
  obtain ⟨t9, ht9, h⟩ := bind_some h
  refine wp_reg mixed [] hst (fun _ => .p rfl (op_move (.t 0 rfl)) <| .p rfl (op_callF call46 (within_ok ht9) (.cons (.of (.t 0 rfl)) <| .cons (.of .k) <| .nil)) <| .p rfl (op_not (.t 0 rfl)) <| .p rfl (op_move (.t 0 rfl)) <| .g rfl rfl (.b 0 rfl) (fun _ => op_move (.t 5 rfl)) <| .g rfl rfl (.b 1 rfl) (fun hc => op_lss (.cond (.t 0 rfl) hc) .k) <| .p rfl (op_or (.t 2 rfl) (fun hp => (.cond (.t 0 rfl) (beqF hp)))) <| .p rfl (op_move (.t 0 rfl)) <| .g rfl rfl (.b 0 rfl) (fun _ => op_move (.t 9 rfl)) <| .g rfl rfl (.b 1 rfl) (fun hc => op_gtr (.cond (.t 0 rfl) hc) .k) <| .p rfl (op_or (.t 2 rfl) (fun hp => (.cond (.t 0 rfl) (beqF hp)))) <| .nil _) (by kernel_rfl) (fun n5 a w hst => ?_)
  replace hst : St M w0 39 [(18, tv (.bool (((!t9) || (decide (smooth_ < (0:Int)))) || (decide (smooth_ > (1024:Int)))))), (0, tsl rI counts_), (1, tv (.int .i64 smooth_))] [] a w := (hst.pick [10, 11, 12])
  refine hK4 _ _ ?_
  clear hK4 K4
  refine wp_test 0 hst rfl (fun b49 => ?_) (fun b49 => ?_)
  · replace h := ite_t b49 h
    refine wp_seq_k (fun K6 hK6 => ?_)
    refine wp_reg mixed [] hst (fun _ => .p rfl (op_assign .k) <| .p rfl (op_assign .k) <| .nil _) (by kernel_rfl) (fun n7 a w hst => ?_)
    replace hst : St M w0 39 [(4, tv (.slice none 0 0)), (5, tv (.int .i64 (5:Int)))] [] a w := (hst.pick [0, 1])
    replace hst := hst.nil rI 3
    refine hK6 _ _ ?_
    clear hK6 K6
    refine wp_ret ?_
    obtain rfl := Option.some.inj h
    exact ret_st (.slice none 0 0) hst rfl (.tmp (.t 0 rfl) (.tmp (.t 1 rfl) .nil)) (fun g hg => (by cases hg; exact ⟨0, rfl⟩)) rfl
  · replace h := ite_f b49 h
    refine wp_skip ?_
    refine hK3 _ _ ?_
    clear hK3 K3
    refine wp_seq_k (fun K9 hK9 => ?_)
    obtain ⟨t20, ht20, h⟩ := bind_some h
    refine wp_reg mixed [(0, fun v => own rI 3 t20 v)] hst (fun _ => .p rfl (op_move (.t 1 rfl)) <| .m 0 [] rfl rfl rfl (op_callF call47 (Clone_ok ht20) (.cons (.of (.t 0 rfl)) <| .nil)) <| .pd (f := fun v => tv v) 0 rfl (op_assign (.t 0 rfl)) <| .nil _) (by kernel_rfl) (fun n10 a w hst => ?_)
    replace hst : St M w0 39 [(20, tv (n10 0)), (6, tv (n10 0)), (1, tv (.int .i64 smooth_))] [own rI 3 t20 (n10 0)] a w := (hst.pick [1, 2, 5])
    refine hK9 _ _ ?_
    clear hK9 K9
    refine wp_seq_k (fun K12 hK12 => ?_)
    refine wp_seq_k (fun K13 hK13 => ?_)
    refine wp_reg mixed [] hst (fun _ => .p rfl (op_move (.t 1 rfl)) <| .u [0] rfl rfl (op_lenO Try.underlying22 (.t 0 rfl)) <| .p rfl (op_move .k) <| .nil _) (by kernel_rfl) (fun n14 a w hst => ?_)
    replace hst : St M w0 39 [(21, tv (n10 0)), (22, tv (.int .i64 (t20.length : Int))), (23, tv (.int .i64 (0:Int))), (20, tv (n10 0)), (6, tv (n10 0)), (1, tv (.int .i64 smooth_))] [own rI 3 t20 (n10 0)] a w := (hst.pick [0, 1, 2, 3, 4, 5])
    refine hK13 _ _ ?_
    clear hK13 K13
    obtain ⟨e17, he17, h⟩ := bind_some h
    have hJp27 : ∀ (p27 : List Int) (v28 : Value) a w, p27 = e17 → St M w0 39 [(6, tv v28)] [own rI 3 p27 v28] a w → K12 a w := by
      intro p27 v28 a w he hst
      subst he
      refine hK12 _ _ ?_
      clear hK12 K12
      refine wp_seq_k (fun K29 hK29 => ?_)
      refine wp_seq_k (fun K30 hK30 => ?_)
      obtain ⟨t35, ht35, h⟩ := bind_some h
      refine wp_reg mixed [] hst (fun _ => .p rfl (op_move (.t 0 rfl)) <| .u [0] rfl rfl (op_callFU [own rI 3 p27 v28] call48 (sum_ok ht35) (.cons (.own (.t 0 rfl) (.head _)) <| .nil) (fun _ => flat_tv) (fun h hh => (by cases hh))) <| .p rfl (op_eql (.t 0 rfl) .k) <| .nil _) (by kernel_rfl) (fun n31 a w hst => ?_)
      replace hst : St M w0 39 [(34, tv v28), (36, tv (.bool (t35 == (0:Int)))), (6, tv v28)] [own rI 3 p27 v28] a w := (hst.pick [0, 2, 3])
      refine hK30 _ _ ?_
      clear hK30 K30
      refine wp_test 1 hst rfl (fun b38 => ?_) (fun b38 => ?_)
      · replace h := ite_t b38 h
        refine wp_seq_k (fun K32 hK32 => ?_)
        refine wp_reg mixed [] hst (fun _ => .p rfl (op_assign .k) <| .p rfl (op_assign .k) <| .nil _) (by kernel_rfl) (fun n33 a w hst => ?_)
        replace hst : St M w0 39 [(4, tv (.slice none 0 0)), (5, tv (.int .i64 (5:Int))), (34, tv v28), (6, tv v28)] [own rI 3 p27 v28] a w := (hst.pick [0, 1, 2, 4])
        replace hst := hst.nil rI 3
        refine hK32 _ _ ?_
        clear hK32 K32
        refine wp_ret ?_
        obtain rfl := Option.some.inj h
        exact ret_st (.slice none 0 0) hst rfl (.tmp (.t 0 rfl) (.tmp (.t 1 rfl) .nil)) (fun g hg => (by cases hg; exact ⟨0, rfl⟩)) rfl
      · replace h := ite_f b38 h
        refine wp_skip ?_
        refine hK29 _ _ ?_
        clear hK29 K29
        refine wp_seq_k (fun K35 hK35 => ?_)
        obtain ⟨t38, ht38, h⟩ := bind_some h
        refine wp_reg mixed [(1, fun v => own rI 3 t38 v)] hst (fun _ => .p rfl (op_move (.t 2 rfl)) <| .m 1 [0] rfl rfl rfl (op_callFU [own rI 3 p27 v28] call49 (lowest_ok ht38) (.cons (.own (.t 0 rfl) (.head _)) <| .nil) (fun _ => flat_tv) (fun h hh x => (by cases hh; exact flat_own (by intro x T h; simp at h; (first | (subst h; exact flat_tv) | (rcases h with h | h | h <;> subst h <;> exact flat_tv)))))) <| .pd (f := fun v => tv v) 1 rfl (op_assign (.t 0 rfl)) <| .p rfl (op_assign .k) <| .nil _) (by kernel_rfl) (fun n36 a w hst => ?_)
        replace hst : St M w0 39 [(37, tv v28), (38, tv (n36 1)), (4, tv (n36 1)), (5, tv (.int .i64 (0:Int))), (34, tv v28), (6, tv v28)] [own rI 3 p27 v28, own rI 3 t38 (n36 1)] a w := (hst.pick [0, 1, 2, 3, 4, 6])
        refine hK35 _ _ ?_
        clear hK35 K35
        refine wp_ret ?_
        obtain rfl := Option.some.inj h
        exact ret_st (n36 1) hst rfl (.tmp (.t 2 rfl) (.tmp (.t 3 rfl) .nil)) (fun g hg => (by cases hg; exact ⟨1, rfl⟩)) rfl
    refine wp_block ?_
    refine wp_loopK _ (fun (s15 : Int × List Int) a w => ∃ v16 : Value, St M w0 39 [(22, tv (.int .i64 (t20.length : Int))), (23, tv (.int .i64 s15.1)), (6, tv v16), (1, tv (.int .i64 smooth_))] [own rI 3 s15.2 v16] a w) _ _ he17 ⟨(n10 0), hst.pick [1, 2, 4, 5]⟩ ?_
    clear h
    intro s15 o a w K39 hI h ho hK39
    obtain ⟨v16, hst⟩ := hI
    refine wp_seq_k (fun K40 hK40 => ?_)
    refine wp_reg mixed [] hst (fun _ => .p rfl (op_lss (.t 1 rfl) (.t 0 rfl)) <| .nil _) (by kernel_rfl) (fun n41 a w hst => ?_)
    replace hst : St M w0 39 [(24, tv (.bool (decide (s15.1 < (t20.length : Int))))), (22, tv (.int .i64 (t20.length : Int))), (23, tv (.int .i64 s15.1)), (6, tv v16), (1, tv (.int .i64 smooth_))] [own rI 3 s15.2 v16] a w := (hst.pick [0, 1, 2, 3, 4])
    refine hK40 _ _ ?_
    clear hK40 K40
    refine wp_seq_k (fun K42 hK42 => ?_)
    refine wp_test 0 hst rfl (fun b48 => ?_) (fun b48 => ?_)
    · replace h := ite_t b48 h
      refine wp_skip ?_
      refine hK42 _ _ ?_
      clear hK42 K42
      refine wp_seq_k (fun K43 hK43 => ?_)
      refine wp_block ?_
      refine wp_seq_k (fun K44 hK44 => ?_)
      refine wp_reg mixed [] hst (fun _ => .p rfl (op_move (.t 2 rfl)) <| .p rfl (op_assign (.t 0 rfl)) <| .nil _) (by kernel_rfl) (fun n45 a w hst => ?_)
      replace hst : St M w0 39 [(7, tv (.int .i64 s15.1)), (22, tv (.int .i64 (t20.length : Int))), (23, tv (.int .i64 s15.1)), (6, tv v16), (1, tv (.int .i64 smooth_))] [own rI 3 s15.2 v16] a w := (hst.pick [1, 3, 4, 5, 6])
      refine hK44 _ _ ?_
      clear hK44 K44
      obtain ⟨t28, ht28, h⟩ := bind_some h
      obtain ⟨t32s, ht32s, h⟩ := bind_some h
      refine wp_reg mixed [(1, fun _ => own rI 3 t32s v16)] hst (fun _ => .p rfl (op_move (.t 3 rfl)) <| .p rfl (op_move (.t 1 rfl)) <| .u [0] rfl rfl (op_indexOi Try.underlying22 tok3 (.t 1 rfl) (.t 0 rfl) ht28) <| .u [0] rfl rfl (op_loadO tok3 (.t 0 rfl) ht28) <| .p rfl (op_move (.t 8 rfl)) <| .p rfl (op_add (.t 1 rfl) (.t 0 rfl)) <| .u [0] rfl rfl (op_indexOs Try.underlying22 tok3 (.t 5 rfl) (.t 4 rfl) ht32s) <| .e 0 1 [] rfl rfl rfl rfl (op_storeO tok3 (.t 0 rfl) (.t 1 rfl) ht32s) <| .nil _) (by kernel_rfl) (fun n46 a w hst => ?_)
      replace hst : St M w0 39 [(26, tv v16), (22, tv (.int .i64 (t20.length : Int))), (23, tv (.int .i64 s15.1)), (6, tv v16), (1, tv (.int .i64 smooth_))] [own rI 3 t32s v16] a w := (hst.pick [0, 8, 9, 10, 11])
      refine hK43 _ _ ?_
      clear hK43 K43
      refine wp_reg mixed [] hst (fun _ => .p rfl (op_add (.t 2 rfl) .k) <| .p rfl (op_move (.t 0 rfl)) <| .nil _) (by kernel_rfl) (fun n47 a w hst => ?_)
      replace hst : St M w0 39 [(23, tv (.int .i64 (IntKind.i64.wrap (s15.1 + (1:Int))))), (26, tv v16), (22, tv (.int .i64 (t20.length : Int))), (6, tv v16), (1, tv (.int .i64 smooth_))] [own rI 3 t32s v16] a w := (hst.pick [1, 2, 3, 4, 5])
      exact hK39 _ _ _ (Option.some.inj h).symm ⟨v16, hst.pick [2, 0, 3, 4]⟩
    · replace h := ite_f b48 h
      refine wp_exit ?_
      exact hJp27 _ v16 _ _ (ho _ (Option.some.inj h).symm) (hst.pick [3])

/- diorama/dioramaref01.Take -/
noncomputable def fTake (l_ : (List Int)) (most_ : Int) : Option ((List Int)) := (sub l_ (0:Int) (imin (l_.length : Int) most_)).bind fun t12 => (rm (([] : List Int).length + t12.length)).bind fun _ => (some (([] : List Int) ++ t12))
set_option maxRecDepth 100000 in
theorem Take_ok {l_ : (List Int)} {most_ : Int} {r : (List Int)} (h : fTake l_ most_ = some r) : FnOk Try.prog 15 [tsl rI l_, tv (.int .i64 most_)] (some fun v => own rI 3 r v) (fun v => tv v) := by
  unfold fTake at h
  refine FnOk.enter Try.func15 rfl Try.ntmps15 (Nat.le_of_ble_eq_true rfl) (fun M w0 a hst => ?_)
  replace hst : St M w0 14 [(0, tsl rI l_), (1, tv (.int .i64 most_))] [] a w0 := hst
  refine wp_seq_k (fun K1 hK1 => ?_)
  refine wp_reg mixed [] hst (fun _ => .p rfl (op_assign .k) <| .nil _) (by kernel_rfl) (fun n2 a w hst => ?_)
  replace hst : St M w0 14 [(0, tsl rI l_), (1, tv (.int .i64 most_))] [] a w := (hst.pick [1, 2])
  refine hK1 _ _ ?_
  clear hK1 K1
  refine wp_seq_k (fun K3 hK3 => ?_)
  refine wp_reg mixed [] hst (fun _ => .p rfl (op_assign .k) <| .nil _) (by kernel_rfl) (fun n4 a w hst => ?_)
  replace hst : St M w0 14 [(5, tv (.slice none 0 0)), (0, tsl rI l_), (1, tv (.int .i64 most_))] [] a w := (hst.pick [0, 1, 2])
  replace hst := hst.nil rI 3
  refine hK3 _ _ ?_
  clear hK3 K3
  refine wp_seq_k (fun K6 hK6 => ?_)
  obtain ⟨t12, ht12, h⟩ := bind_some h
  obtain ⟨u13, hu13, h⟩ := bind_some h
  refine wp_reg mixed [(1, fun v => own rI 3 (([] : List Int) ++ t12) v)] hst (fun _ => .p rfl (op_move (.t 0 rfl)) <| .p rfl (op_move (.t 2 rfl)) <| .p rfl (op_move (.t 3 rfl)) <| .p rfl (op_len Try.underlying22 (.t 0 rfl)) <| .p rfl (op_move (.t 6 rfl)) <| .p rfl (op_min (.t 1 rfl) (.t 0 rfl)) <| .p rfl (op_slice Try.underlying22 tok3 (.t 4 rfl) (.no _) (.op (.t 0 rfl)) ht12) <| .e 0 1 [] rfl rfl rfl rfl (op_append (R := rI) Try.underlying22 tok3 (Nat.le_of_ble_eq_true rfl) (.t 6 rfl) (.t 0 rfl) hu13) <| .pd (f := fun v => tv v) 1 rfl (op_assign (.t 0 rfl)) <| .nil _) (by kernel_rfl) (fun n7 a w hst => ?_)
  replace hst : St M w0 14 [(13, tv (n7 1)), (4, tv (n7 1))] [own rI 3 (([] : List Int) ++ t12) (n7 1)] a w := (hst.pick [7, 8])
  refine hK6 _ _ ?_
  clear hK6 K6
  refine wp_ret ?_
  obtain rfl := Option.some.inj h
  exact ret_st (n7 1) hst rfl (.tmp (.t 1 rfl) .nil) (fun g hg => (by cases hg; exact ⟨0, rfl⟩)) rfl


end Go.Proofs.Ytjniiejgccdhiaa
