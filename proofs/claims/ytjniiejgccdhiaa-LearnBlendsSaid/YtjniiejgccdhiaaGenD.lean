/- Go functions as Lean functions, and the proofs that they compute them, written by a program. No condition. -/
import Derived.Test.YtjniiejgccdhiaaGenC
namespace Go.Proofs.Ytjniiejgccdhiaa
open Go.Sim

/- diorama/ratio.Valid -/
noncomputable def fValid (a_ : SRatio) : Option (Bool) := (if (eqlR a_ (SRatio.mk (0:Int) (0:Int))) = true then (some true) else (opt (((((decide ((a_).Q ≥ (1:Int))) && (decide ((a_).Q ≤ (2147483648:Int)))) && (decide ((a_).P ≥ (-2147483648:Int)))) && (decide ((a_).P ≤ (2147483648:Int)))) == true) (fsize (a_).P) default).bind fun t27 => (opt (((((decide ((a_).Q ≥ (1:Int))) && (decide ((a_).Q ≤ (2147483648:Int)))) && (decide ((a_).P ≥ (-2147483648:Int)))) && (decide ((a_).P ≤ (2147483648:Int)))) == true) (fsize (a_).Q) default).bind fun t30 => (opt (((((decide ((a_).Q ≥ (1:Int))) && (decide ((a_).Q ≤ (2147483648:Int)))) && (decide ((a_).P ≥ (-2147483648:Int)))) && (decide ((a_).P ≤ (2147483648:Int)))) == true) (fgcdU t27 t30) default).bind fun t31 => (some (((((decide ((a_).Q ≥ (1:Int))) && (decide ((a_).Q ≤ (2147483648:Int)))) && (decide ((a_).P ≥ (-2147483648:Int)))) && (decide ((a_).P ≤ (2147483648:Int)))) && (t31 == (1:Int)))))
set_option maxRecDepth 100000 in
theorem Valid_ok {a_ : SRatio} {r : Bool} (h : fValid a_ = some r) : FnOk Try.prog 52 [rSRatio.ty a_] none (fun _ => tv (.bool r)) := by
  unfold fValid at h
  refine FnOk.enter Try.func52 rfl Try.ntmps52 (Nat.le_of_ble_eq_true rfl) (fun M w0 a hst => ?_)
  replace hst : St M w0 34 [(0, rSRatio.ty a_)] [] a w0 := hst
  refine wp_seq_k (fun K1 hK1 => ?_)
  refine wp_reg mixed [] hst (fun _ => .p rfl (op_boxR (R := rSRatio) (u := a_) (.t 0 rfl)) <| .p rfl (op_assign .k) <| .nil _) (by kernel_rfl) (fun n2 a w hst => ?_)
  replace hst : St M w0 34 [(1, tptr (rSRatio.cs a_))] [] a w := (hst.pick [0])
  refine hK1 _ _ ?_
  clear hK1 K1
  refine wp_seq_k (fun K3 hK3 => ?_)
  refine wp_seq_k (fun K4 hK4 => ?_)
  refine wp_reg mixed [] hst (fun _ => .p rfl (op_load tok39 (.t 0 rfl)) <| .p (T := rSRatio.ty (SRatio.mk (0:Int) (0:Int))) rfl (op_build Try.underlying39 pl39 zv39 zc39 (.nil _)) <| .p rfl (op_eqlR (.t 1 rfl) (.t 0 rfl)) <| .nil _) (by kernel_rfl) (fun n5 a w hst => ?_)
  replace hst : St M w0 34 [(5, tv (.bool (eqlR a_ (SRatio.mk (0:Int) (0:Int))))), (1, tptr (rSRatio.cs a_))] [] a w := (hst.pick [2, 3])
  refine hK4 _ _ ?_
  clear hK4 K4
  refine wp_test 0 hst rfl (fun b10 => ?_) (fun b10 => ?_)
  · replace h := ite_t b10 h
    refine wp_seq_k (fun K6 hK6 => ?_)
    refine wp_reg mixed [] hst (fun _ => .p rfl (op_assign .k) <| .nil _) (by kernel_rfl) (fun n7 a w hst => ?_)
    replace hst : St M w0 34 [(2, tv (.bool true))] [] a w := (hst.pick [0])
    refine hK6 _ _ ?_
    clear hK6 K6
    refine wp_ret ?_
    obtain rfl := Option.some.inj h
    exact ret_st undef hst rfl (.tmp (.t 0 rfl) .nil) (fun g hg => (by cases hg)) rfl
  · replace h := ite_f b10 h
    refine wp_skip ?_
    refine hK3 _ _ ?_
    clear hK3 K3
    refine wp_seq_k (fun K8 hK8 => ?_)
    obtain ⟨t27, ht27, h⟩ := bind_some h
    obtain ⟨t30, ht30, h⟩ := bind_some h
    obtain ⟨t31, ht31, h⟩ := bind_some h
    refine wp_reg mixed [] hst (fun _ => .p rfl (op_field fld39_1 (.t 1 rfl)) <| .p rfl (op_loadT (u := (a_).Q) tok3 (.t 0 rfl) rfl) <| .p rfl (op_geq (.t 0 rfl) .k) <| .p rfl (op_move (.t 0 rfl)) <| .g rfl rfl (.b 0 rfl) (fun _ => op_field fld39_1 (.t 5 rfl)) <| .g rfl rfl (.b 1 rfl) (fun hc => op_loadT (u := (a_).Q) tok3 (.cond (.t 0 rfl) hc) rfl) <| .g rfl rfl (.b 2 rfl) (fun hc => op_leq (.cond (.t 0 rfl) hc) .k) <| .p rfl (op_and (.t 3 rfl) (fun hp => (.cond (.t 0 rfl) (beqT hp)))) <| .p rfl (op_move (.t 0 rfl)) <| .g rfl rfl (.b 0 rfl) (fun _ => op_field fld39_0 (.t 10 rfl)) <| .g rfl rfl (.b 1 rfl) (fun hc => op_loadT (u := (a_).P) tok3 (.cond (.t 0 rfl) hc) rfl) <| .g rfl rfl (.b 2 rfl) (fun hc => op_geq (.cond (.t 0 rfl) hc) .k) <| .p rfl (op_and (.t 3 rfl) (fun hp => (.cond (.t 0 rfl) (beqT hp)))) <| .p rfl (op_move (.t 0 rfl)) <| .g rfl rfl (.b 0 rfl) (fun _ => op_field fld39_0 (.t 15 rfl)) <| .g rfl rfl (.b 1 rfl) (fun hc => op_loadT (u := (a_).P) tok3 (.cond (.t 0 rfl) hc) rfl) <| .g rfl rfl (.b 2 rfl) (fun hc => op_leq (.cond (.t 0 rfl) hc) .k) <| .p rfl (op_and (.t 3 rfl) (fun hp => (.cond (.t 0 rfl) (beqT hp)))) <| .p rfl (op_move (.t 0 rfl)) <| .g rfl rfl (.b 0 rfl) (fun _ => op_field fld39_0 (.t 20 rfl)) <| .g rfl rfl (.b 1 rfl) (fun hc => op_loadT (u := (a_).P) tok3 (.cond (.t 0 rfl) hc) rfl) <| .g rfl rfl (.b 2 rfl) (fun hc => op_callF call56 (size_ok (opt_t ht27 hc)) (.cons (.of (.cond (.t 0 rfl) hc)) <| .nil)) <| .g rfl rfl (.b 3 rfl) (fun _ => op_field fld39_1 (.t 23 rfl)) <| .g rfl rfl (.b 4 rfl) (fun hc => op_loadT (u := (a_).Q) tok3 (.cond (.t 0 rfl) hc) rfl) <| .g rfl rfl (.b 5 rfl) (fun hc => op_callF call56 (size_ok (opt_t ht30 hc)) (.cons (.of (.cond (.t 0 rfl) hc)) <| .nil)) <| .g rfl rfl (.b 6 rfl) (fun hc => op_callF call57 (gcdU_ok (opt_t ht31 hc)) (.cons (.of (.cond (.t 3 rfl) hc)) <| .cons (.of (.cond (.t 0 rfl) hc)) <| .nil)) <| .g rfl rfl (.b 7 rfl) (fun hc => op_eql (.cond (.t 0 rfl) hc) .k) <| .p rfl (op_and (.t 8 rfl) (fun hp => (.cond (.t 0 rfl) (beqT hp)))) <| .p rfl (op_assign (.t 0 rfl)) <| .nil _) (by kernel_rfl) (fun n9 a w hst => ?_)
    replace hst : St M w0 34 [(2, tv (.bool (((((decide ((a_).Q ≥ (1:Int))) && (decide ((a_).Q ≤ (2147483648:Int)))) && (decide ((a_).P ≥ (-2147483648:Int)))) && (decide ((a_).P ≤ (2147483648:Int)))) && (t31 == (1:Int)))))] [] a w := (hst.pick [28])
    refine hK8 _ _ ?_
    clear hK8 K8
    refine wp_ret ?_
    obtain rfl := Option.some.inj h
    exact ret_st undef hst rfl (.tmp (.t 0 rfl) .nil) (fun g hg => (by cases hg)) rfl

/- diorama/learn.both -/
noncomputable def fboth (a_ : (List Int)) (b_ : (List Int)) : Option (Int) := (fright a_).bind fun t7 => (fright b_).bind fun t9 => (if ((a_.length : Int) != (b_.length : Int)) = true then (some (1:Int)) else (if (neqB2 (SBool2.mk t7 t9) (SBool2.mk true true)) = true then (some (5:Int)) else (some (0:Int))))
set_option maxRecDepth 100000 in
theorem both_ok {a_ : (List Int)} {b_ : (List Int)} {r : Int} (h : fboth a_ b_ = some r) : FnOk Try.prog 51 [tsl rI a_, tsl rI b_] none (fun _ => tv (.int .i64 r)) := by
  unfold fboth at h
  refine FnOk.enter Try.func51 rfl Try.ntmps51 (Nat.le_of_ble_eq_true rfl) (fun M w0 a hst => ?_)
  replace hst : St M w0 21 [(0, tsl rI a_), (1, tsl rI b_)] [] a w0 := hst
  refine wp_seq_k (fun K1 hK1 => ?_)
  refine wp_reg mixed [] hst (fun _ => .p rfl (op_assign .k) <| .nil _) (by kernel_rfl) (fun n2 a w hst => ?_)
  replace hst : St M w0 21 [(0, tsl rI a_), (1, tsl rI b_)] [] a w := (hst.pick [1, 2])
  refine hK1 _ _ ?_
  clear hK1 K1
  refine wp_seq_k (fun K3 hK3 => ?_)
  refine wp_seq_k (fun K4 hK4 => ?_)
  obtain ⟨t7, ht7, h⟩ := bind_some h
  obtain ⟨t9, ht9, h⟩ := bind_some h
  refine wp_reg mixed [(0, fun v => box (rSBool2.cs (SBool2.mk false false)) v), (0, fun v => box (rSBool2.cs (SBool2.mk t7 t9)) v)] hst (fun _ => .p rfl (op_move (.t 0 rfl)) <| .p rfl (op_callF call77 (right_ok ht7) (.cons (.of (.t 0 rfl)) <| .nil)) <| .p rfl (op_move (.t 3 rfl)) <| .p rfl (op_callF call77 (right_ok ht9) (.cons (.of (.t 0 rfl)) <| .nil)) <| .p (T := rSBool2.ty (SBool2.mk t7 t9)) rfl (op_buildArr (R := rBool) (us := [t7, t9]) Try.underlying100 tok4 zv100 rfl (.cons (.t 2 rfl) <| .cons (.t 0 rfl) <| .nil _)) <| .m 0 [] rfl rfl rfl (op_alloc (R := rSBool2) (a := (SBool2.mk false false)) tok100 zok100) <| .e 0 1 [] rfl rfl rfl rfl (op_storeB (R := rSBool2) (a := (SBool2.mk t7 t9)) tok100 (.t 0 rfl) (.t 1 rfl) (Nat.le_of_ble_eq_true rfl)) <| .nil _) (by kernel_rfl) (fun n5 a w hst => ?_)
  replace hst : St M w0 21 [(5, tv (n5 0)), (0, tsl rI a_), (1, tsl rI b_)] [box (rSBool2.cs (SBool2.mk t7 t9)) (n5 0)] a w := (hst.pick [5, 6, 7])
  refine hK4 _ _ ?_
  clear hK4 K4
  refine wp_block ?_
  refine wp_seq_k (fun K7 hK7 => ?_)
  refine wp_reg mixed [] hst (fun _ => .p rfl (op_move (.t 1 rfl)) <| .p rfl (op_len Try.underlying22 (.t 0 rfl)) <| .p rfl (op_move (.t 4 rfl)) <| .p rfl (op_len Try.underlying22 (.t 0 rfl)) <| .p rfl (op_neq (.t 2 rfl) (.t 0 rfl)) <| .p rfl (op_assign (.t 0 rfl)) <| .nil _) (by kernel_rfl) (fun n8 a w hst => ?_)
  replace hst : St M w0 21 [(11, tv (.bool ((a_.length : Int) != (b_.length : Int)))), (5, tv (n5 0))] [box (rSBool2.cs (SBool2.mk t7 t9)) (n5 0)] a w := (hst.pick [5, 6])
  refine hK7 _ _ ?_
  clear hK7 K7
  refine wp_test 0 hst rfl (fun b18 => ?_) (fun b18 => ?_)
  · replace h := ite_t b18 h
    refine wp_seq_k (fun K9 hK9 => ?_)
    refine wp_reg mixed [] hst (fun _ => .p rfl (op_assign .k) <| .nil _) (by kernel_rfl) (fun n10 a w hst => ?_)
    replace hst : St M w0 21 [(4, tv (.int .i64 (1:Int)))] [] a w := (hst.pick [0]).keepA [false]
    refine hK9 _ _ ?_
    clear hK9 K9
    refine wp_ret ?_
    obtain rfl := Option.some.inj h
    exact ret_st undef hst rfl (.tmp (.t 0 rfl) .nil) (fun g hg => (by cases hg)) rfl
  · replace h := ite_f b18 h
    refine wp_seq_k (fun K11 hK11 => ?_)
    refine wp_reg mixed [] hst (fun _ => .u [0] rfl rfl (op_loadB (R := rSBool2) (u := (SBool2.mk t7 t9)) tok100 (.t 1 rfl) rfl) <| .p (T := rSBool2.ty (SBool2.mk true true)) rfl (op_buildArr (R := rBool) (us := [true, true]) Try.underlying100 tok4 zv100 rfl (.cons .k <| .cons .k <| .nil _)) <| .p rfl (op_neqB2 (.t 1 rfl) (.t 0 rfl)) <| .p rfl (op_assign (.t 0 rfl)) <| .nil _) (by kernel_rfl) (fun n12 a w hst => ?_)
    replace hst : St M w0 21 [(17, tv (.bool (neqB2 (SBool2.mk t7 t9) (SBool2.mk true true))))] [] a w := (hst.pick [3]).keepA [false]
    refine hK11 _ _ ?_
    clear hK11 K11
    refine wp_test 0 hst rfl (fun b17 => ?_) (fun b17 => ?_)
    · replace h := ite_t b17 h
      refine wp_seq_k (fun K13 hK13 => ?_)
      refine wp_reg mixed [] hst (fun _ => .p rfl (op_assign .k) <| .nil _) (by kernel_rfl) (fun n14 a w hst => ?_)
      replace hst : St M w0 21 [(4, tv (.int .i64 (5:Int)))] [] a w := (hst.pick [0])
      refine hK13 _ _ ?_
      clear hK13 K13
      refine wp_ret ?_
      obtain rfl := Option.some.inj h
      exact ret_st undef hst rfl (.tmp (.t 0 rfl) .nil) (fun g hg => (by cases hg)) rfl
    · replace h := ite_f b17 h
      refine wp_skip ?_
      refine hK3 _ _ ?_
      clear hK3 K3
      refine wp_seq_k (fun K15 hK15 => ?_)
      refine wp_reg mixed [] hst (fun _ => .p rfl (op_assign .k) <| .nil _) (by kernel_rfl) (fun n16 a w hst => ?_)
      replace hst : St M w0 21 [(4, tv (.int .i64 (0:Int)))] [] a w := (hst.pick [0])
      refine hK15 _ _ ?_
      clear hK15 K15
      refine wp_ret ?_
      obtain rfl := Option.some.inj h
      exact ret_st undef hst rfl (.tmp (.t 0 rfl) .nil) (fun g hg => (by cases hg)) rfl

/- diorama/dioramaref27.Lowest -/
noncomputable def fLowestR (l_ : (List Int)) : Option ((List Int)) := (tailrec (fun (s8 : Int × Int) => ((if (decide (s8.1 < (l_.length : Int))) = true then (idx l_ s8.1).bind fun t16 => (fGcdR s8.2 t16).bind fun t18 => (some (.inl ((IntKind.i64.wrap (s8.1 + (1:Int))), t18))) else (some (.inr s8.2))) : Option ((Int × Int) ⊕ ((Int))))) ((0:Int), (0:Int))).bind fun (p17 : (Int)) => (tailrec (fun (s24 : Int × List Int) => ((if (decide (s24.1 < (l_.length : Int))) = true then (idx l_ s24.1).bind fun t28 => (nz (imax p17 (1:Int))).bind fun _ => (rm (s24.2.length + [(IntKind.i64.wrap (Int.tdiv t28 (imax p17 (1:Int))))].length)).bind fun _ => (some (.inl ((IntKind.i64.wrap (s24.1 + (1:Int))), (s24.2 ++ [(IntKind.i64.wrap (Int.tdiv t28 (imax p17 (1:Int))))])))) else (some (.inr s24.2))) : Option ((Int × List Int) ⊕ ((List Int))))) ((0:Int), ([] : List Int))).bind fun (p34 : (List Int)) => (some p34)
set_option maxRecDepth 100000 in
theorem LowestR_ok {l_ : (List Int)} {r : (List Int)} (h : fLowestR l_ = some r) : FnOk Try.prog 24 [tsl rI l_] (some fun v => own rI 3 r v) (fun v => tv v) := by
  unfold fLowestR at h
  refine FnOk.enter Try.func24 rfl Try.ntmps24 (Nat.le_of_ble_eq_true rfl) (fun M w0 a hst => ?_)
  replace hst : St M w0 36 [(0, tsl rI l_)] [] a w0 := hst
  refine wp_seq_k (fun K1 hK1 => ?_)
  refine wp_reg mixed [] hst (fun _ => .p rfl (op_assign .k) <| .nil _) (by kernel_rfl) (fun n2 a w hst => ?_)
  replace hst : St M w0 36 [(0, tsl rI l_)] [] a w := (hst.pick [1])
  refine hK1 _ _ ?_
  clear hK1 K1
  refine wp_seq_k (fun K3 hK3 => ?_)
  refine wp_reg mixed [] hst (fun _ => .p rfl (op_assign .k) <| .nil _) (by kernel_rfl) (fun n4 a w hst => ?_)
  replace hst : St M w0 36 [(3, tv (.int .i64 (0:Int))), (0, tsl rI l_)] [] a w := (hst.pick [0, 1])
  refine hK3 _ _ ?_
  clear hK3 K3
  refine wp_seq_k (fun K5 hK5 => ?_)
  refine wp_seq_k (fun K6 hK6 => ?_)
  refine wp_reg mixed [] hst (fun _ => .p rfl (op_assign .k) <| .nil _) (by kernel_rfl) (fun n7 a w hst => ?_)
  replace hst : St M w0 36 [(4, tv (.int .i64 (0:Int))), (3, tv (.int .i64 (0:Int))), (0, tsl rI l_)] [] a w := (hst.pick [0, 1, 2])
  refine hK6 _ _ ?_
  clear hK6 K6
  obtain ⟨e9, he9, h⟩ := bind_some h
  have hJp17 : ∀ (p17 : Int) a w, p17 = e9 → St M w0 36 [(3, tv (.int .i64 p17)), (0, tsl rI l_)] [] a w → K5 a w := by
    intro p17 a w he hst
    subst he
    refine hK5 _ _ ?_
    clear hK5 K5
    refine wp_seq_k (fun K18 hK18 => ?_)
    refine wp_reg mixed [] hst (fun _ => .p rfl (op_assign .k) <| .nil _) (by kernel_rfl) (fun n19 a w hst => ?_)
    replace hst : St M w0 36 [(5, tv (.slice none 0 0)), (3, tv (.int .i64 p17)), (0, tsl rI l_)] [] a w := (hst.pick [0, 1, 2])
    replace hst := hst.nil rI 3
    refine hK18 _ _ ?_
    clear hK18 K18
    refine wp_seq_k (fun K21 hK21 => ?_)
    refine wp_seq_k (fun K22 hK22 => ?_)
    refine wp_reg mixed [] hst (fun _ => .p rfl (op_assign .k) <| .nil _) (by kernel_rfl) (fun n23 a w hst => ?_)
    replace hst : St M w0 36 [(6, tv (.int .i64 (0:Int))), (5, tv (.slice none 0 0)), (3, tv (.int .i64 p17)), (0, tsl rI l_)] [own rI 3 ([] : List Int) (.slice none 0 0)] a w := (hst.pick [0, 1, 2, 3])
    refine hK22 _ _ ?_
    clear hK22 K22
    obtain ⟨e26, he26, h⟩ := bind_some h
    have hJp34 : ∀ (p34 : List Int) (v35 : Value) a w, p34 = e26 → St M w0 36 [(5, tv v35)] [own rI 3 p34 v35] a w → K21 a w := by
      intro p34 v35 a w he hst
      subst he
      refine hK21 _ _ ?_
      clear hK21 K21
      refine wp_seq_k (fun K36 hK36 => ?_)
      refine wp_reg mixed [] hst (fun _ => .p rfl (op_move (.t 0 rfl)) <| .p rfl (op_assign (.t 0 rfl)) <| .nil _) (by kernel_rfl) (fun n37 a w hst => ?_)
      replace hst : St M w0 36 [(35, tv v35), (2, tv v35), (5, tv v35)] [own rI 3 p34 v35] a w := (hst.pick [0, 1, 2])
      refine hK36 _ _ ?_
      clear hK36 K36
      refine wp_ret ?_
      obtain rfl := Option.some.inj h
      exact ret_st v35 hst rfl (.tmp (.t 1 rfl) .nil) (fun g hg => (by cases hg; exact ⟨0, rfl⟩)) rfl
    refine wp_block ?_
    refine wp_loopK _ (fun (s24 : Int × List Int) a w => ∃ v25 : Value, St M w0 36 [(6, tv (.int .i64 s24.1)), (5, tv v25), (3, tv (.int .i64 p17)), (0, tsl rI l_)] [own rI 3 s24.2 v25] a w) _ _ he26 ⟨(.slice none 0 0), hst.pick [0, 1, 2, 3]⟩ ?_
    clear h
    intro s24 o a w K38 hI h ho hK38
    obtain ⟨v25, hst⟩ := hI
    refine wp_seq_k (fun K39 hK39 => ?_)
    refine wp_seq_k (fun K40 hK40 => ?_)
    refine wp_reg mixed [] hst (fun _ => .p rfl (op_move (.t 0 rfl)) <| .p rfl (op_move (.t 4 rfl)) <| .p rfl (op_len Try.underlying22 (.t 0 rfl)) <| .p rfl (op_lss (.t 2 rfl) (.t 0 rfl)) <| .nil _) (by kernel_rfl) (fun n41 a w hst => ?_)
    replace hst : St M w0 36 [(22, tv (.bool (decide (s24.1 < (l_.length : Int))))), (6, tv (.int .i64 s24.1)), (5, tv v25), (3, tv (.int .i64 p17)), (0, tsl rI l_)] [own rI 3 s24.2 v25] a w := (hst.pick [3, 4, 5, 6, 7])
    refine hK40 _ _ ?_
    clear hK40 K40
    refine wp_test 0 hst rfl (fun b45 => ?_) (fun b45 => ?_)
    · replace h := ite_t b45 h
      refine wp_skip ?_
      refine hK39 _ _ ?_
      clear hK39 K39
      refine wp_seq_k (fun K42 hK42 => ?_)
      refine wp_block ?_
      obtain ⟨t28, ht28, h⟩ := bind_some h
      obtain ⟨u32, hu32, h⟩ := bind_some h
      obtain ⟨u34, hu34, h⟩ := bind_some h
      refine wp_reg mixed [(1, fun v => own rI 3 (s24.2 ++ [(IntKind.i64.wrap (Int.tdiv t28 (imax p17 (1:Int))))]) v)] hst (fun _ => .p rfl (op_move (.t 2 rfl)) <| .p rfl (op_move (.t 5 rfl)) <| .p rfl (op_move (.t 3 rfl)) <| .p rfl (op_index Try.underlying22 tok3 (.t 1 rfl) (.t 0 rfl) ht28) <| .p rfl (op_load tok3 (.t 0 rfl)) <| .p rfl (op_move (.t 8 rfl)) <| .p rfl (op_max (.t 0 rfl) .k) <| .p rfl (op_quo (.t 2 rfl) (.t 0 rfl) (nz_ne hu32)) <| .p rfl (op_buildSl (R := rI) (us := [(IntKind.i64.wrap (Int.tdiv t28 (imax p17 (1:Int))))]) Try.underlying22 tok3 (.cons (.t 0 rfl) <| .nil _) rfl (Nat.le_of_ble_eq_true rfl)) <| .e 0 1 [] rfl rfl rfl rfl (op_append (R := rI) Try.underlying22 tok3 (Nat.le_of_ble_eq_true rfl) (.t 8 rfl) (.t 0 rfl) hu34) <| .pd (f := fun v => tv v) 1 rfl (op_assign (.t 0 rfl)) <| .nil _) (by kernel_rfl) (fun n43 a w hst => ?_)
      replace hst : St M w0 36 [(34, tv (n43 1)), (5, tv (n43 1)), (6, tv (.int .i64 s24.1)), (3, tv (.int .i64 p17)), (0, tsl rI l_)] [own rI 3 (s24.2 ++ [(IntKind.i64.wrap (Int.tdiv t28 (imax p17 (1:Int))))]) (n43 1)] a w := (hst.pick [9, 10, 12, 13, 14])
      refine hK42 _ _ ?_
      clear hK42 K42
      refine wp_reg mixed [] hst (fun _ => .p rfl (op_move (.t 2 rfl)) <| .p rfl (op_add (.t 0 rfl) .k) <| .p rfl (op_assign (.t 0 rfl)) <| .nil _) (by kernel_rfl) (fun n44 a w hst => ?_)
      replace hst : St M w0 36 [(6, tv (.int .i64 (IntKind.i64.wrap (s24.1 + (1:Int))))), (34, tv (n43 1)), (5, tv (n43 1)), (3, tv (.int .i64 p17)), (0, tsl rI l_)] [own rI 3 (s24.2 ++ [(IntKind.i64.wrap (Int.tdiv t28 (imax p17 (1:Int))))]) (n43 1)] a w := (hst.pick [2, 3, 4, 5, 6])
      exact hK38 _ _ _ (Option.some.inj h).symm ⟨(n43 1), hst.pick [0, 2, 3, 4]⟩
    · replace h := ite_f b45 h
      refine wp_exit ?_
      exact hJp34 _ v25 _ _ (ho _ (Option.some.inj h).symm) (hst.pick [2])
  refine wp_block ?_
  refine wp_loopK _ (fun (s8 : Int × Int) a w => St M w0 36 [(4, tv (.int .i64 s8.1)), (3, tv (.int .i64 s8.2)), (0, tsl rI l_)] [] a w) _ _ he9 (hst.pick [0, 1, 2]) ?_
  clear h
  intro s8 o a w K46 hI h ho hK46
  have hst := hI
  clear hI
  refine wp_seq_k (fun K47 hK47 => ?_)
  refine wp_seq_k (fun K48 hK48 => ?_)
  refine wp_reg mixed [] hst (fun _ => .p rfl (op_move (.t 0 rfl)) <| .p rfl (op_move (.t 3 rfl)) <| .p rfl (op_len Try.underlying22 (.t 0 rfl)) <| .p rfl (op_lss (.t 2 rfl) (.t 0 rfl)) <| .nil _) (by kernel_rfl) (fun n49 a w hst => ?_)
  replace hst : St M w0 36 [(10, tv (.bool (decide (s8.1 < (l_.length : Int))))), (4, tv (.int .i64 s8.1)), (3, tv (.int .i64 s8.2)), (0, tsl rI l_)] [] a w := (hst.pick [3, 4, 5, 6])
  refine hK48 _ _ ?_
  clear hK48 K48
  refine wp_test 0 hst rfl (fun b53 => ?_) (fun b53 => ?_)
  · replace h := ite_t b53 h
    refine wp_skip ?_
    refine hK47 _ _ ?_
    clear hK47 K47
    refine wp_seq_k (fun K50 hK50 => ?_)
    refine wp_block ?_
    obtain ⟨t16, ht16, h⟩ := bind_some h
    obtain ⟨t18, ht18, h⟩ := bind_some h
    refine wp_reg mixed [] hst (fun _ => .p rfl (op_move (.t 2 rfl)) <| .p rfl (op_move (.t 4 rfl)) <| .p rfl (op_move (.t 3 rfl)) <| .p rfl (op_index Try.underlying22 tok3 (.t 1 rfl) (.t 0 rfl) ht16) <| .p rfl (op_load tok3 (.t 0 rfl)) <| .p rfl (op_callF call55 (GcdR_ok ht18) (.cons (.of (.t 4 rfl)) <| .cons (.of (.t 0 rfl)) <| .nil)) <| .p rfl (op_assign (.t 0 rfl)) <| .nil _) (by kernel_rfl) (fun n51 a w hst => ?_)
    replace hst : St M w0 36 [(3, tv (.int .i64 t18)), (4, tv (.int .i64 s8.1)), (0, tsl rI l_)] [] a w := (hst.pick [6, 8, 9])
    refine hK50 _ _ ?_
    clear hK50 K50
    refine wp_reg mixed [] hst (fun _ => .p rfl (op_move (.t 1 rfl)) <| .p rfl (op_add (.t 0 rfl) .k) <| .p rfl (op_assign (.t 0 rfl)) <| .nil _) (by kernel_rfl) (fun n52 a w hst => ?_)
    replace hst : St M w0 36 [(4, tv (.int .i64 (IntKind.i64.wrap (s8.1 + (1:Int))))), (3, tv (.int .i64 t18)), (0, tsl rI l_)] [] a w := (hst.pick [2, 3, 4])
    exact hK46 _ _ _ (Option.some.inj h).symm (hst.pick [0, 1, 2])
  · replace h := ite_f b53 h
    refine wp_exit ?_
    exact hJp17 _ _ _ (ho _ (Option.some.inj h).symm) (hst.pick [2, 3])

/- diorama/dioramaref27.Weights -/
noncomputable def fWeightsR (counts_ : (List Int)) (smooth_ : Int) : Option ((List Int) × Int) := (fWithinR counts_ (524288:Int)).bind fun t9 => (if (((!t9) || (decide (smooth_ < (0:Int)))) || (decide (smooth_ > (1024:Int)))) = true then (some (([] : List Int), (5:Int))) else (tailrec (fun (s15 : Int × List Int) => ((if (decide (s15.1 < (counts_.length : Int))) = true then (idx counts_ s15.1).bind fun t28 => (rm (s15.2.length + [(IntKind.i64.wrap (t28 + smooth_))].length)).bind fun _ => (some (.inl ((IntKind.i64.wrap (s15.1 + (1:Int))), (s15.2 ++ [(IntKind.i64.wrap (t28 + smooth_))])))) else (some (.inr s15.2))) : Option ((Int × List Int) ⊕ ((List Int))))) ((0:Int), ([] : List Int))).bind fun (p25 : (List Int)) => (fSumR p25).bind fun t35 => (if (t35 == (0:Int)) = true then (some (([] : List Int), (5:Int))) else (fLowestR p25).bind fun t38 => (some (t38, (0:Int)))))
set_option maxRecDepth 100000 in
theorem WeightsR_ok {counts_ : (List Int)} {smooth_ : Int} {r : (List Int) × Int} (h : fWeightsR counts_ smooth_ = some r) : FnOk Try.prog 17 [tsl rI counts_, tv (.int .i64 smooth_)] (some fun v => own rI 3 r.1 v) (fun v => ttup [tv v, tv (.int .i64 r.2)]) := by
  unfold fWeightsR at h
  refine FnOk.enter Try.func17 rfl Try.ntmps17 (Nat.le_of_ble_eq_true rfl) (fun M w0 a hst => ?_)
  replace hst : St M w0 39 [(0, tsl rI counts_), (1, tv (.int .i64 smooth_))] [] a w0 := hst
  refine wp_seq_k (fun K1 hK1 => ?_)
  refine wp_reg mixed [] hst (fun _ => .p rfl (op_assign .k) <| .p rfl (op_assign .k) <| .nil _) (by kernel_rfl) (fun n2 a w hst => ?_)
  replace hst : St M w0 39 [(0, tsl rI counts_), (1, tv (.int .i64 smooth_))] [] a w := (hst.pick [2, 3])
  refine hK1 _ _ ?_
  clear hK1 K1
  refine wp_seq_k (fun K3 hK3 => ?_)
  refine wp_seq_k (fun K4 hK4 => ?_)
  obtain ⟨t9, ht9, h⟩ := bind_some h
  refine wp_reg mixed [] hst (fun _ => .p rfl (op_move (.t 0 rfl)) <| .p rfl (op_callF call50 (WithinR_ok ht9) (.cons (.of (.t 0 rfl)) <| .cons (.of .k) <| .nil)) <| .p rfl (op_not (.t 0 rfl)) <| .p rfl (op_move (.t 0 rfl)) <| .g rfl rfl (.b 0 rfl) (fun _ => op_move (.t 5 rfl)) <| .g rfl rfl (.b 1 rfl) (fun hc => op_lss (.cond (.t 0 rfl) hc) .k) <| .p rfl (op_or (.t 2 rfl) (fun hp => (.cond (.t 0 rfl) (beqF hp)))) <| .p rfl (op_move (.t 0 rfl)) <| .g rfl rfl (.b 0 rfl) (fun _ => op_move (.t 9 rfl)) <| .g rfl rfl (.b 1 rfl) (fun hc => op_gtr (.cond (.t 0 rfl) hc) .k) <| .p rfl (op_or (.t 2 rfl) (fun hp => (.cond (.t 0 rfl) (beqF hp)))) <| .nil _) (by kernel_rfl) (fun n5 a w hst => ?_)
  replace hst : St M w0 39 [(18, tv (.bool (((!t9) || (decide (smooth_ < (0:Int)))) || (decide (smooth_ > (1024:Int)))))), (0, tsl rI counts_), (1, tv (.int .i64 smooth_))] [] a w := (hst.pick [10, 11, 12])
  refine hK4 _ _ ?_
  clear hK4 K4
  refine wp_test 0 hst rfl (fun b45 => ?_) (fun b45 => ?_)
  · replace h := ite_t b45 h
    refine wp_seq_k (fun K6 hK6 => ?_)
    refine wp_reg mixed [] hst (fun _ => .p rfl (op_assign .k) <| .p rfl (op_assign .k) <| .nil _) (by kernel_rfl) (fun n7 a w hst => ?_)
    replace hst : St M w0 39 [(4, tv (.slice none 0 0)), (5, tv (.int .i64 (5:Int)))] [] a w := (hst.pick [0, 1])
    replace hst := hst.nil rI 3
    refine hK6 _ _ ?_
    clear hK6 K6
    refine wp_ret ?_
    obtain rfl := Option.some.inj h
    exact ret_st (.slice none 0 0) hst rfl (.tmp (.t 0 rfl) (.tmp (.t 1 rfl) .nil)) (fun g hg => (by cases hg; exact ⟨0, rfl⟩)) rfl
  · replace h := ite_f b45 h
    refine wp_skip ?_
    refine hK3 _ _ ?_
    clear hK3 K3
    refine wp_seq_k (fun K9 hK9 => ?_)
    refine wp_reg mixed [] hst (fun _ => .p rfl (op_assign .k) <| .nil _) (by kernel_rfl) (fun n10 a w hst => ?_)
    replace hst : St M w0 39 [(6, tv (.slice none 0 0)), (0, tsl rI counts_), (1, tv (.int .i64 smooth_))] [] a w := (hst.pick [0, 2, 3])
    replace hst := hst.nil rI 3
    refine hK9 _ _ ?_
    clear hK9 K9
    refine wp_seq_k (fun K12 hK12 => ?_)
    refine wp_seq_k (fun K13 hK13 => ?_)
    refine wp_reg mixed [] hst (fun _ => .p rfl (op_assign .k) <| .nil _) (by kernel_rfl) (fun n14 a w hst => ?_)
    replace hst : St M w0 39 [(7, tv (.int .i64 (0:Int))), (6, tv (.slice none 0 0)), (0, tsl rI counts_), (1, tv (.int .i64 smooth_))] [own rI 3 ([] : List Int) (.slice none 0 0)] a w := (hst.pick [0, 1, 2, 3])
    refine hK13 _ _ ?_
    clear hK13 K13
    obtain ⟨e17, he17, h⟩ := bind_some h
    have hJp25 : ∀ (p25 : List Int) (v26 : Value) a w, p25 = e17 → St M w0 39 [(6, tv v26)] [own rI 3 p25 v26] a w → K12 a w := by
      intro p25 v26 a w he hst
      subst he
      refine hK12 _ _ ?_
      clear hK12 K12
      refine wp_seq_k (fun K27 hK27 => ?_)
      refine wp_seq_k (fun K28 hK28 => ?_)
      obtain ⟨t35, ht35, h⟩ := bind_some h
      refine wp_reg mixed [] hst (fun _ => .p rfl (op_move (.t 0 rfl)) <| .u [0] rfl rfl (op_callFU [own rI 3 p25 v26] call45 (SumR_ok ht35) (.cons (.own (.t 0 rfl) (.head _)) <| .nil) (fun _ => flat_tv) (fun h hh => (by cases hh))) <| .p rfl (op_eql (.t 0 rfl) .k) <| .nil _) (by kernel_rfl) (fun n29 a w hst => ?_)
      replace hst : St M w0 39 [(34, tv v26), (36, tv (.bool (t35 == (0:Int)))), (6, tv v26)] [own rI 3 p25 v26] a w := (hst.pick [0, 2, 3])
      refine hK28 _ _ ?_
      clear hK28 K28
      refine wp_test 1 hst rfl (fun b36 => ?_) (fun b36 => ?_)
      · replace h := ite_t b36 h
        refine wp_seq_k (fun K30 hK30 => ?_)
        refine wp_reg mixed [] hst (fun _ => .p rfl (op_assign .k) <| .p rfl (op_assign .k) <| .nil _) (by kernel_rfl) (fun n31 a w hst => ?_)
        replace hst : St M w0 39 [(4, tv (.slice none 0 0)), (5, tv (.int .i64 (5:Int))), (34, tv v26), (6, tv v26)] [own rI 3 p25 v26] a w := (hst.pick [0, 1, 2, 4])
        replace hst := hst.nil rI 3
        refine hK30 _ _ ?_
        clear hK30 K30
        refine wp_ret ?_
        obtain rfl := Option.some.inj h
        exact ret_st (.slice none 0 0) hst rfl (.tmp (.t 0 rfl) (.tmp (.t 1 rfl) .nil)) (fun g hg => (by cases hg; exact ⟨0, rfl⟩)) rfl
      · replace h := ite_f b36 h
        refine wp_skip ?_
        refine hK27 _ _ ?_
        clear hK27 K27
        refine wp_seq_k (fun K33 hK33 => ?_)
        obtain ⟨t38, ht38, h⟩ := bind_some h
        refine wp_reg mixed [(1, fun v => own rI 3 t38 v)] hst (fun _ => .p rfl (op_move (.t 2 rfl)) <| .m 1 [0] rfl rfl rfl (op_callFU [own rI 3 p25 v26] call24 (LowestR_ok ht38) (.cons (.own (.t 0 rfl) (.head _)) <| .nil) (fun _ => flat_tv) (fun h hh x => (by cases hh; exact flat_own (by intro x T h; simp at h; (first | (subst h; exact flat_tv) | (rcases h with h | h | h <;> subst h <;> exact flat_tv)))))) <| .pd (f := fun v => tv v) 1 rfl (op_assign (.t 0 rfl)) <| .p rfl (op_assign .k) <| .nil _) (by kernel_rfl) (fun n34 a w hst => ?_)
        replace hst : St M w0 39 [(37, tv v26), (38, tv (n34 1)), (4, tv (n34 1)), (5, tv (.int .i64 (0:Int))), (34, tv v26), (6, tv v26)] [own rI 3 p25 v26, own rI 3 t38 (n34 1)] a w := (hst.pick [0, 1, 2, 3, 4, 6])
        refine hK33 _ _ ?_
        clear hK33 K33
        refine wp_ret ?_
        obtain rfl := Option.some.inj h
        exact ret_st (n34 1) hst rfl (.tmp (.t 2 rfl) (.tmp (.t 3 rfl) .nil)) (fun g hg => (by cases hg; exact ⟨1, rfl⟩)) rfl
    refine wp_block ?_
    refine wp_loopK _ (fun (s15 : Int × List Int) a w => ∃ v16 : Value, St M w0 39 [(7, tv (.int .i64 s15.1)), (6, tv v16), (0, tsl rI counts_), (1, tv (.int .i64 smooth_))] [own rI 3 s15.2 v16] a w) _ _ he17 ⟨(.slice none 0 0), hst.pick [0, 1, 2, 3]⟩ ?_
    clear h
    intro s15 o a w K37 hI h ho hK37
    obtain ⟨v16, hst⟩ := hI
    refine wp_seq_k (fun K38 hK38 => ?_)
    refine wp_seq_k (fun K39 hK39 => ?_)
    refine wp_reg mixed [] hst (fun _ => .p rfl (op_move (.t 0 rfl)) <| .p rfl (op_move (.t 3 rfl)) <| .p rfl (op_len Try.underlying22 (.t 0 rfl)) <| .p rfl (op_lss (.t 2 rfl) (.t 0 rfl)) <| .nil _) (by kernel_rfl) (fun n40 a w hst => ?_)
    replace hst : St M w0 39 [(22, tv (.bool (decide (s15.1 < (counts_.length : Int))))), (7, tv (.int .i64 s15.1)), (6, tv v16), (0, tsl rI counts_), (1, tv (.int .i64 smooth_))] [own rI 3 s15.2 v16] a w := (hst.pick [3, 4, 5, 6, 7])
    refine hK39 _ _ ?_
    clear hK39 K39
    refine wp_test 0 hst rfl (fun b44 => ?_) (fun b44 => ?_)
    · replace h := ite_t b44 h
      refine wp_skip ?_
      refine hK38 _ _ ?_
      clear hK38 K38
      refine wp_seq_k (fun K41 hK41 => ?_)
      refine wp_block ?_
      obtain ⟨t28, ht28, h⟩ := bind_some h
      obtain ⟨u33, hu33, h⟩ := bind_some h
      refine wp_reg mixed [(1, fun v => own rI 3 (s15.2 ++ [(IntKind.i64.wrap (t28 + smooth_))]) v)] hst (fun _ => .p rfl (op_move (.t 2 rfl)) <| .p rfl (op_move (.t 4 rfl)) <| .p rfl (op_move (.t 3 rfl)) <| .p rfl (op_index Try.underlying22 tok3 (.t 1 rfl) (.t 0 rfl) ht28) <| .p rfl (op_load tok3 (.t 0 rfl)) <| .p rfl (op_move (.t 9 rfl)) <| .p rfl (op_add (.t 1 rfl) (.t 0 rfl)) <| .p rfl (op_buildSl (R := rI) (us := [(IntKind.i64.wrap (t28 + smooth_))]) Try.underlying22 tok3 (.cons (.t 0 rfl) <| .nil _) rfl (Nat.le_of_ble_eq_true rfl)) <| .e 0 1 [] rfl rfl rfl rfl (op_append (R := rI) Try.underlying22 tok3 (Nat.le_of_ble_eq_true rfl) (.t 7 rfl) (.t 0 rfl) hu33) <| .pd (f := fun v => tv v) 1 rfl (op_assign (.t 0 rfl)) <| .nil _) (by kernel_rfl) (fun n42 a w hst => ?_)
      replace hst : St M w0 39 [(33, tv (n42 1)), (6, tv (n42 1)), (7, tv (.int .i64 s15.1)), (0, tsl rI counts_), (1, tv (.int .i64 smooth_))] [own rI 3 (s15.2 ++ [(IntKind.i64.wrap (t28 + smooth_))]) (n42 1)] a w := (hst.pick [8, 9, 11, 12, 13])
      refine hK41 _ _ ?_
      clear hK41 K41
      refine wp_reg mixed [] hst (fun _ => .p rfl (op_move (.t 2 rfl)) <| .p rfl (op_add (.t 0 rfl) .k) <| .p rfl (op_assign (.t 0 rfl)) <| .nil _) (by kernel_rfl) (fun n43 a w hst => ?_)
      replace hst : St M w0 39 [(7, tv (.int .i64 (IntKind.i64.wrap (s15.1 + (1:Int))))), (33, tv (n42 1)), (6, tv (n42 1)), (0, tsl rI counts_), (1, tv (.int .i64 smooth_))] [own rI 3 (s15.2 ++ [(IntKind.i64.wrap (t28 + smooth_))]) (n42 1)] a w := (hst.pick [2, 3, 4, 5, 6])
      exact hK37 _ _ _ (Option.some.inj h).symm ⟨(n42 1), hst.pick [0, 2, 3, 4]⟩
    · replace h := ite_f b44 h
      refine wp_exit ?_
      exact hJp25 _ v16 _ _ (ho _ (Option.some.inj h).symm) (hst.pick [2])

/- diorama/dioramaref27.Right -/
noncomputable def fRightR (l_ : (List Int)) : Option (Bool) := (fWithinR l_ (1048576:Int)).bind fun t4 => (if (!t4) = true then (some false) else (fSumR l_).bind fun t7 => (some (decide (t7 > (0:Int)))))
set_option maxRecDepth 100000 in
theorem RightR_ok {l_ : (List Int)} {r : Bool} (h : fRightR l_ = some r) : FnOk Try.prog 19 [tsl rI l_] none (fun _ => tv (.bool r)) := by
  unfold fRightR at h
  refine FnOk.enter Try.func19 rfl Try.ntmps19 (Nat.le_of_ble_eq_true rfl) (fun M w0 a hst => ?_)
  replace hst : St M w0 9 [(0, tsl rI l_)] [] a w0 := hst
  refine wp_seq_k (fun K1 hK1 => ?_)
  refine wp_reg mixed [] hst (fun _ => .p rfl (op_assign .k) <| .nil _) (by kernel_rfl) (fun n2 a w hst => ?_)
  replace hst : St M w0 9 [(0, tsl rI l_)] [] a w := (hst.pick [1])
  refine hK1 _ _ ?_
  clear hK1 K1
  refine wp_seq_k (fun K3 hK3 => ?_)
  refine wp_seq_k (fun K4 hK4 => ?_)
  obtain ⟨t4, ht4, h⟩ := bind_some h
  refine wp_reg mixed [] hst (fun _ => .p rfl (op_move (.t 0 rfl)) <| .p rfl (op_callF call50 (WithinR_ok ht4) (.cons (.of (.t 0 rfl)) <| .cons (.of .k) <| .nil)) <| .p rfl (op_not (.t 0 rfl)) <| .nil _) (by kernel_rfl) (fun n5 a w hst => ?_)
  replace hst : St M w0 9 [(5, tv (.bool (!t4))), (0, tsl rI l_)] [] a w := (hst.pick [2, 3])
  refine hK4 _ _ ?_
  clear hK4 K4
  refine wp_test 0 hst rfl (fun b10 => ?_) (fun b10 => ?_)
  · replace h := ite_t b10 h
    refine wp_seq_k (fun K6 hK6 => ?_)
    refine wp_reg mixed [] hst (fun _ => .p rfl (op_assign .k) <| .nil _) (by kernel_rfl) (fun n7 a w hst => ?_)
    replace hst : St M w0 9 [(2, tv (.bool false))] [] a w := (hst.pick [0])
    refine hK6 _ _ ?_
    clear hK6 K6
    refine wp_ret ?_
    obtain rfl := Option.some.inj h
    exact ret_st undef hst rfl (.tmp (.t 0 rfl) .nil) (fun g hg => (by cases hg)) rfl
  · replace h := ite_f b10 h
    refine wp_skip ?_
    refine hK3 _ _ ?_
    clear hK3 K3
    refine wp_seq_k (fun K8 hK8 => ?_)
    obtain ⟨t7, ht7, h⟩ := bind_some h
    refine wp_reg mixed [] hst (fun _ => .p rfl (op_move (.t 1 rfl)) <| .p rfl (op_callF call45 (SumR_ok ht7) (.cons (.of (.t 0 rfl)) <| .nil)) <| .p rfl (op_gtr (.t 0 rfl) .k) <| .p rfl (op_assign (.t 0 rfl)) <| .nil _) (by kernel_rfl) (fun n9 a w hst => ?_)
    replace hst : St M w0 9 [(2, tv (.bool (decide (t7 > (0:Int)))))] [] a w := (hst.pick [3])
    refine hK8 _ _ ?_
    clear hK8 K8
    refine wp_ret ?_
    obtain rfl := Option.some.inj h
    exact ret_st undef hst rfl (.tmp (.t 0 rfl) .nil) (fun g hg => (by cases hg)) rfl

/- diorama/dioramaref04.Valid -/
noncomputable def fValidR (a_ : SRatio) : Option (Bool) := (if (((a_).P == (0:Int)) && ((a_).Q == (0:Int))) = true then (some true) else (if ((((decide ((a_).Q < (1:Int))) || (decide ((a_).Q > (2147483648:Int)))) || (decide ((a_).P < (-2147483648:Int)))) || (decide ((a_).P > (2147483648:Int)))) = true then (some false) else (fSizeR (a_).P).bind fun t31 => (fSizeR (a_).Q).bind fun t34 => (fCommon t31 t34).bind fun t35 => (some (t35 == (1:Int)))))
set_option maxRecDepth 100000 in
theorem ValidR_ok {a_ : SRatio} {r : Bool} (h : fValidR a_ = some r) : FnOk Try.prog 54 [rSRatio.ty a_] none (fun _ => tv (.bool r)) := by
  unfold fValidR at h
  refine FnOk.enter Try.func54 rfl Try.ntmps54 (Nat.le_of_ble_eq_true rfl) (fun M w0 a hst => ?_)
  replace hst : St M w0 37 [(0, rSRatio.ty a_)] [] a w0 := hst
  refine wp_seq_k (fun K1 hK1 => ?_)
  refine wp_reg mixed [] hst (fun _ => .p rfl (op_boxR (R := rSRatio) (u := a_) (.t 0 rfl)) <| .p rfl (op_assign .k) <| .nil _) (by kernel_rfl) (fun n2 a w hst => ?_)
  replace hst : St M w0 37 [(1, tptr (rSRatio.cs a_))] [] a w := (hst.pick [0])
  refine hK1 _ _ ?_
  clear hK1 K1
  refine wp_seq_k (fun K3 hK3 => ?_)
  refine wp_seq_k (fun K4 hK4 => ?_)
  refine wp_reg mixed [] hst (fun _ => .p rfl (op_field fld39_0 (.t 0 rfl)) <| .p rfl (op_loadT (u := (a_).P) tok3 (.t 0 rfl) rfl) <| .p rfl (op_eql (.t 0 rfl) .k) <| .p rfl (op_move (.t 0 rfl)) <| .g rfl rfl (.b 0 rfl) (fun _ => op_field fld39_1 (.t 4 rfl)) <| .g rfl rfl (.b 1 rfl) (fun hc => op_loadT (u := (a_).Q) tok3 (.cond (.t 0 rfl) hc) rfl) <| .g rfl rfl (.b 2 rfl) (fun hc => op_eql (.cond (.t 0 rfl) hc) .k) <| .p rfl (op_and (.t 3 rfl) (fun hp => (.cond (.t 0 rfl) (beqT hp)))) <| .nil _) (by kernel_rfl) (fun n5 a w hst => ?_)
  replace hst : St M w0 37 [(10, tv (.bool (((a_).P == (0:Int)) && ((a_).Q == (0:Int))))), (1, tptr (rSRatio.cs a_))] [] a w := (hst.pick [7, 8])
  refine hK4 _ _ ?_
  clear hK4 K4
  refine wp_test 0 hst rfl (fun b16 => ?_) (fun b16 => ?_)
  · replace h := ite_t b16 h
    refine wp_seq_k (fun K6 hK6 => ?_)
    refine wp_reg mixed [] hst (fun _ => .p rfl (op_assign .k) <| .nil _) (by kernel_rfl) (fun n7 a w hst => ?_)
    replace hst : St M w0 37 [(2, tv (.bool true))] [] a w := (hst.pick [0])
    refine hK6 _ _ ?_
    clear hK6 K6
    refine wp_ret ?_
    obtain rfl := Option.some.inj h
    exact ret_st undef hst rfl (.tmp (.t 0 rfl) .nil) (fun g hg => (by cases hg)) rfl
  · replace h := ite_f b16 h
    refine wp_skip ?_
    refine hK3 _ _ ?_
    clear hK3 K3
    refine wp_seq_k (fun K8 hK8 => ?_)
    refine wp_seq_k (fun K9 hK9 => ?_)
    refine wp_reg mixed [] hst (fun _ => .p rfl (op_field fld39_1 (.t 1 rfl)) <| .p rfl (op_loadT (u := (a_).Q) tok3 (.t 0 rfl) rfl) <| .p rfl (op_lss (.t 0 rfl) .k) <| .p rfl (op_move (.t 0 rfl)) <| .g rfl rfl (.b 0 rfl) (fun _ => op_field fld39_1 (.t 5 rfl)) <| .g rfl rfl (.b 1 rfl) (fun hc => op_loadT (u := (a_).Q) tok3 (.cond (.t 0 rfl) hc) rfl) <| .g rfl rfl (.b 2 rfl) (fun hc => op_gtr (.cond (.t 0 rfl) hc) .k) <| .p rfl (op_or (.t 3 rfl) (fun hp => (.cond (.t 0 rfl) (beqF hp)))) <| .p rfl (op_move (.t 0 rfl)) <| .g rfl rfl (.b 0 rfl) (fun _ => op_field fld39_0 (.t 10 rfl)) <| .g rfl rfl (.b 1 rfl) (fun hc => op_loadT (u := (a_).P) tok3 (.cond (.t 0 rfl) hc) rfl) <| .g rfl rfl (.b 2 rfl) (fun hc => op_lss (.cond (.t 0 rfl) hc) .k) <| .p rfl (op_or (.t 3 rfl) (fun hp => (.cond (.t 0 rfl) (beqF hp)))) <| .p rfl (op_move (.t 0 rfl)) <| .g rfl rfl (.b 0 rfl) (fun _ => op_field fld39_0 (.t 15 rfl)) <| .g rfl rfl (.b 1 rfl) (fun hc => op_loadT (u := (a_).P) tok3 (.cond (.t 0 rfl) hc) rfl) <| .g rfl rfl (.b 2 rfl) (fun hc => op_gtr (.cond (.t 0 rfl) hc) .k) <| .p rfl (op_or (.t 3 rfl) (fun hp => (.cond (.t 0 rfl) (beqF hp)))) <| .nil _) (by kernel_rfl) (fun n10 a w hst => ?_)
    replace hst : St M w0 37 [(28, tv (.bool ((((decide ((a_).Q < (1:Int))) || (decide ((a_).Q > (2147483648:Int)))) || (decide ((a_).P < (-2147483648:Int)))) || (decide ((a_).P > (2147483648:Int)))))), (1, tptr (rSRatio.cs a_))] [] a w := (hst.pick [17, 19])
    refine hK9 _ _ ?_
    clear hK9 K9
    refine wp_test 0 hst rfl (fun b15 => ?_) (fun b15 => ?_)
    · replace h := ite_t b15 h
      refine wp_seq_k (fun K11 hK11 => ?_)
      refine wp_reg mixed [] hst (fun _ => .p rfl (op_assign .k) <| .nil _) (by kernel_rfl) (fun n12 a w hst => ?_)
      replace hst : St M w0 37 [(2, tv (.bool false))] [] a w := (hst.pick [0])
      refine hK11 _ _ ?_
      clear hK11 K11
      refine wp_ret ?_
      obtain rfl := Option.some.inj h
      exact ret_st undef hst rfl (.tmp (.t 0 rfl) .nil) (fun g hg => (by cases hg)) rfl
    · replace h := ite_f b15 h
      refine wp_skip ?_
      refine hK8 _ _ ?_
      clear hK8 K8
      refine wp_seq_k (fun K13 hK13 => ?_)
      obtain ⟨t31, ht31, h⟩ := bind_some h
      obtain ⟨t34, ht34, h⟩ := bind_some h
      obtain ⟨t35, ht35, h⟩ := bind_some h
      refine wp_reg mixed [] hst (fun _ => .p rfl (op_field fld39_0 (.t 1 rfl)) <| .p rfl (op_loadT (u := (a_).P) tok3 (.t 0 rfl) rfl) <| .p rfl (op_callF call79 (SizeR_ok ht31) (.cons (.of (.t 0 rfl)) <| .nil)) <| .p rfl (op_field fld39_1 (.t 4 rfl)) <| .p rfl (op_loadT (u := (a_).Q) tok3 (.t 0 rfl) rfl) <| .p rfl (op_callF call79 (SizeR_ok ht34) (.cons (.of (.t 0 rfl)) <| .nil)) <| .p rfl (op_callF call78 (Common_ok ht35) (.cons (.of (.t 3 rfl)) <| .cons (.of (.t 0 rfl)) <| .nil)) <| .p rfl (op_eql (.t 0 rfl) .k) <| .p rfl (op_assign (.t 0 rfl)) <| .nil _) (by kernel_rfl) (fun n14 a w hst => ?_)
      replace hst : St M w0 37 [(2, tv (.bool (t35 == (1:Int))))] [] a w := (hst.pick [8])
      refine hK13 _ _ ?_
      clear hK13 K13
      refine wp_ret ?_
      obtain rfl := Option.some.inj h
      exact ret_st undef hst rfl (.tmp (.t 0 rfl) .nil) (fun g hg => (by cases hg)) rfl

/- slices.Max[[]int,int] -/
noncomputable def fMax (x_ : (List Int)) : Option (Int) := (if (decide ((x_.length : Int) < (1:Int))) = true then none else (idx x_ (0:Int)).bind fun t10 => (tailrec (fun (s12 : Int × Int) => ((if (decide (s12.1 < (x_.length : Int))) = true then (idx x_ s12.1).bind fun t21 => (some (.inl ((IntKind.i64.wrap (s12.1 + (1:Int))), (imax s12.2 t21)))) else (some (.inr s12.2))) : Option ((Int × Int) ⊕ ((Int))))) ((1:Int), t10)).bind fun (p21 : (Int)) => (some p21))
set_option maxRecDepth 100000 in
theorem Max_ok {x_ : (List Int)} {r : Int} (h : fMax x_ = some r) : FnOk Try.prog 53 [tsl rI x_] none (fun _ => tv (.int .i64 r)) := by
  unfold fMax at h
  refine FnOk.enter Try.func53 rfl Try.ntmps53 (Nat.le_of_ble_eq_true rfl) (fun M w0 a hst => ?_)
  replace hst : St M w0 25 [(0, tsl rI x_)] [] a w0 := hst
  refine wp_seq_k (fun K1 hK1 => ?_)
  refine wp_reg mixed [] hst (fun _ => .p rfl (op_assign .k) <| .nil _) (by kernel_rfl) (fun n2 a w hst => ?_)
  replace hst : St M w0 25 [(0, tsl rI x_)] [] a w := (hst.pick [1])
  refine hK1 _ _ ?_
  clear hK1 K1
  refine wp_seq_k (fun K3 hK3 => ?_)
  refine wp_seq_k (fun K4 hK4 => ?_)
  refine wp_reg mixed [] hst (fun _ => .p rfl (op_move (.t 0 rfl)) <| .p rfl (op_len Try.underlying22 (.t 0 rfl)) <| .p rfl (op_lss (.t 0 rfl) .k) <| .nil _) (by kernel_rfl) (fun n5 a w hst => ?_)
  replace hst : St M w0 25 [(7, tv (.bool (decide ((x_.length : Int) < (1:Int))))), (0, tsl rI x_)] [] a w := (hst.pick [2, 3])
  refine hK4 _ _ ?_
  clear hK4 K4
  refine wp_test 0 hst rfl (fun b32 => ?_) (fun b32 => ?_)
  · replace h := ite_t b32 h
    cases h
  · replace h := ite_f b32 h
    refine wp_skip ?_
    refine hK3 _ _ ?_
    clear hK3 K3
    refine wp_seq_k (fun K7 hK7 => ?_)
    obtain ⟨t10, ht10, h⟩ := bind_some h
    refine wp_reg mixed [] hst (fun _ => .p rfl (op_move (.t 1 rfl)) <| .p rfl (op_index Try.underlying22 tok3 (.t 0 rfl) .k ht10) <| .p rfl (op_load tok3 (.t 0 rfl)) <| .p rfl (op_assign (.t 0 rfl)) <| .nil _) (by kernel_rfl) (fun n8 a w hst => ?_)
    replace hst : St M w0 25 [(3, tv (.int .i64 t10)), (0, tsl rI x_)] [] a w := (hst.pick [3, 5])
    refine hK7 _ _ ?_
    clear hK7 K7
    refine wp_seq_k (fun K9 hK9 => ?_)
    refine wp_seq_k (fun K10 hK10 => ?_)
    refine wp_reg mixed [] hst (fun _ => .p rfl (op_assign .k) <| .nil _) (by kernel_rfl) (fun n11 a w hst => ?_)
    replace hst : St M w0 25 [(4, tv (.int .i64 (1:Int))), (3, tv (.int .i64 t10)), (0, tsl rI x_)] [] a w := (hst.pick [0, 1, 2])
    refine hK10 _ _ ?_
    clear hK10 K10
    obtain ⟨e13, he13, h⟩ := bind_some h
    have hJp21 : ∀ (p21 : Int) a w, p21 = e13 → St M w0 25 [(3, tv (.int .i64 p21))] [] a w → K9 a w := by
      intro p21 a w he hst
      subst he
      refine hK9 _ _ ?_
      clear hK9 K9
      refine wp_seq_k (fun K22 hK22 => ?_)
      refine wp_reg mixed [] hst (fun _ => .p rfl (op_move (.t 0 rfl)) <| .p rfl (op_assign (.t 0 rfl)) <| .nil _) (by kernel_rfl) (fun n23 a w hst => ?_)
      replace hst : St M w0 25 [(2, tv (.int .i64 p21))] [] a w := (hst.pick [1])
      refine hK22 _ _ ?_
      clear hK22 K22
      refine wp_ret ?_
      obtain rfl := Option.some.inj h
      exact ret_st undef hst rfl (.tmp (.t 0 rfl) .nil) (fun g hg => (by cases hg)) rfl
    refine wp_block ?_
    refine wp_loopK _ (fun (s12 : Int × Int) a w => St M w0 25 [(4, tv (.int .i64 s12.1)), (3, tv (.int .i64 s12.2)), (0, tsl rI x_)] [] a w) _ _ he13 (hst.pick [0, 1, 2]) ?_
    clear h
    intro s12 o a w K24 hI h ho hK24
    have hst := hI
    clear hI
    refine wp_seq_k (fun K25 hK25 => ?_)
    refine wp_seq_k (fun K26 hK26 => ?_)
    refine wp_reg mixed [] hst (fun _ => .p rfl (op_move (.t 0 rfl)) <| .p rfl (op_move (.t 3 rfl)) <| .p rfl (op_len Try.underlying22 (.t 0 rfl)) <| .p rfl (op_lss (.t 2 rfl) (.t 0 rfl)) <| .nil _) (by kernel_rfl) (fun n27 a w hst => ?_)
    replace hst : St M w0 25 [(15, tv (.bool (decide (s12.1 < (x_.length : Int))))), (4, tv (.int .i64 s12.1)), (3, tv (.int .i64 s12.2)), (0, tsl rI x_)] [] a w := (hst.pick [3, 4, 5, 6])
    refine hK26 _ _ ?_
    clear hK26 K26
    refine wp_test 0 hst rfl (fun b31 => ?_) (fun b31 => ?_)
    · replace h := ite_t b31 h
      refine wp_skip ?_
      refine hK25 _ _ ?_
      clear hK25 K25
      refine wp_seq_k (fun K28 hK28 => ?_)
      refine wp_block ?_
      obtain ⟨t21, ht21, h⟩ := bind_some h
      refine wp_reg mixed [] hst (fun _ => .p rfl (op_move (.t 2 rfl)) <| .p rfl (op_move (.t 4 rfl)) <| .p rfl (op_move (.t 3 rfl)) <| .p rfl (op_index Try.underlying22 tok3 (.t 1 rfl) (.t 0 rfl) ht21) <| .p rfl (op_load tok3 (.t 0 rfl)) <| .p rfl (op_max (.t 4 rfl) (.t 0 rfl)) <| .p rfl (op_assign (.t 0 rfl)) <| .nil _) (by kernel_rfl) (fun n29 a w hst => ?_)
      replace hst : St M w0 25 [(3, tv (.int .i64 (imax s12.2 t21))), (4, tv (.int .i64 s12.1)), (0, tsl rI x_)] [] a w := (hst.pick [6, 8, 9])
      refine hK28 _ _ ?_
      clear hK28 K28
      refine wp_reg mixed [] hst (fun _ => .p rfl (op_move (.t 1 rfl)) <| .p rfl (op_add (.t 0 rfl) .k) <| .p rfl (op_assign (.t 0 rfl)) <| .nil _) (by kernel_rfl) (fun n30 a w hst => ?_)
      replace hst : St M w0 25 [(4, tv (.int .i64 (IntKind.i64.wrap (s12.1 + (1:Int))))), (3, tv (.int .i64 (imax s12.2 t21))), (0, tsl rI x_)] [] a w := (hst.pick [2, 3, 4])
      exact hK24 _ _ _ (Option.some.inj h).symm (hst.pick [0, 1, 2])
    · replace h := ite_f b31 h
      refine wp_exit ?_
      exact hJp21 _ _ _ (ho _ (Option.some.inj h).symm) (hst.pick [2])

/- slices.Min[[]int,int] -/
noncomputable def fMin (x_ : (List Int)) : Option (Int) := (if (decide ((x_.length : Int) < (1:Int))) = true then none else (idx x_ (0:Int)).bind fun t10 => (tailrec (fun (s12 : Int × Int) => ((if (decide (s12.1 < (x_.length : Int))) = true then (idx x_ s12.1).bind fun t21 => (some (.inl ((IntKind.i64.wrap (s12.1 + (1:Int))), (imin s12.2 t21)))) else (some (.inr s12.2))) : Option ((Int × Int) ⊕ ((Int))))) ((1:Int), t10)).bind fun (p21 : (Int)) => (some p21))
set_option maxRecDepth 100000 in
theorem Min_ok {x_ : (List Int)} {r : Int} (h : fMin x_ = some r) : FnOk Try.prog 71 [tsl rI x_] none (fun _ => tv (.int .i64 r)) := by
  unfold fMin at h
  refine FnOk.enter Try.func71 rfl Try.ntmps71 (Nat.le_of_ble_eq_true rfl) (fun M w0 a hst => ?_)
  replace hst : St M w0 25 [(0, tsl rI x_)] [] a w0 := hst
  refine wp_seq_k (fun K1 hK1 => ?_)
  refine wp_reg mixed [] hst (fun _ => .p rfl (op_assign .k) <| .nil _) (by kernel_rfl) (fun n2 a w hst => ?_)
  replace hst : St M w0 25 [(0, tsl rI x_)] [] a w := (hst.pick [1])
  refine hK1 _ _ ?_
  clear hK1 K1
  refine wp_seq_k (fun K3 hK3 => ?_)
  refine wp_seq_k (fun K4 hK4 => ?_)
  refine wp_reg mixed [] hst (fun _ => .p rfl (op_move (.t 0 rfl)) <| .p rfl (op_len Try.underlying22 (.t 0 rfl)) <| .p rfl (op_lss (.t 0 rfl) .k) <| .nil _) (by kernel_rfl) (fun n5 a w hst => ?_)
  replace hst : St M w0 25 [(7, tv (.bool (decide ((x_.length : Int) < (1:Int))))), (0, tsl rI x_)] [] a w := (hst.pick [2, 3])
  refine hK4 _ _ ?_
  clear hK4 K4
  refine wp_test 0 hst rfl (fun b32 => ?_) (fun b32 => ?_)
  · replace h := ite_t b32 h
    cases h
  · replace h := ite_f b32 h
    refine wp_skip ?_
    refine hK3 _ _ ?_
    clear hK3 K3
    refine wp_seq_k (fun K7 hK7 => ?_)
    obtain ⟨t10, ht10, h⟩ := bind_some h
    refine wp_reg mixed [] hst (fun _ => .p rfl (op_move (.t 1 rfl)) <| .p rfl (op_index Try.underlying22 tok3 (.t 0 rfl) .k ht10) <| .p rfl (op_load tok3 (.t 0 rfl)) <| .p rfl (op_assign (.t 0 rfl)) <| .nil _) (by kernel_rfl) (fun n8 a w hst => ?_)
    replace hst : St M w0 25 [(3, tv (.int .i64 t10)), (0, tsl rI x_)] [] a w := (hst.pick [3, 5])
    refine hK7 _ _ ?_
    clear hK7 K7
    refine wp_seq_k (fun K9 hK9 => ?_)
    refine wp_seq_k (fun K10 hK10 => ?_)
    refine wp_reg mixed [] hst (fun _ => .p rfl (op_assign .k) <| .nil _) (by kernel_rfl) (fun n11 a w hst => ?_)
    replace hst : St M w0 25 [(4, tv (.int .i64 (1:Int))), (3, tv (.int .i64 t10)), (0, tsl rI x_)] [] a w := (hst.pick [0, 1, 2])
    refine hK10 _ _ ?_
    clear hK10 K10
    obtain ⟨e13, he13, h⟩ := bind_some h
    have hJp21 : ∀ (p21 : Int) a w, p21 = e13 → St M w0 25 [(3, tv (.int .i64 p21))] [] a w → K9 a w := by
      intro p21 a w he hst
      subst he
      refine hK9 _ _ ?_
      clear hK9 K9
      refine wp_seq_k (fun K22 hK22 => ?_)
      refine wp_reg mixed [] hst (fun _ => .p rfl (op_move (.t 0 rfl)) <| .p rfl (op_assign (.t 0 rfl)) <| .nil _) (by kernel_rfl) (fun n23 a w hst => ?_)
      replace hst : St M w0 25 [(2, tv (.int .i64 p21))] [] a w := (hst.pick [1])
      refine hK22 _ _ ?_
      clear hK22 K22
      refine wp_ret ?_
      obtain rfl := Option.some.inj h
      exact ret_st undef hst rfl (.tmp (.t 0 rfl) .nil) (fun g hg => (by cases hg)) rfl
    refine wp_block ?_
    refine wp_loopK _ (fun (s12 : Int × Int) a w => St M w0 25 [(4, tv (.int .i64 s12.1)), (3, tv (.int .i64 s12.2)), (0, tsl rI x_)] [] a w) _ _ he13 (hst.pick [0, 1, 2]) ?_
    clear h
    intro s12 o a w K24 hI h ho hK24
    have hst := hI
    clear hI
    refine wp_seq_k (fun K25 hK25 => ?_)
    refine wp_seq_k (fun K26 hK26 => ?_)
    refine wp_reg mixed [] hst (fun _ => .p rfl (op_move (.t 0 rfl)) <| .p rfl (op_move (.t 3 rfl)) <| .p rfl (op_len Try.underlying22 (.t 0 rfl)) <| .p rfl (op_lss (.t 2 rfl) (.t 0 rfl)) <| .nil _) (by kernel_rfl) (fun n27 a w hst => ?_)
    replace hst : St M w0 25 [(15, tv (.bool (decide (s12.1 < (x_.length : Int))))), (4, tv (.int .i64 s12.1)), (3, tv (.int .i64 s12.2)), (0, tsl rI x_)] [] a w := (hst.pick [3, 4, 5, 6])
    refine hK26 _ _ ?_
    clear hK26 K26
    refine wp_test 0 hst rfl (fun b31 => ?_) (fun b31 => ?_)
    · replace h := ite_t b31 h
      refine wp_skip ?_
      refine hK25 _ _ ?_
      clear hK25 K25
      refine wp_seq_k (fun K28 hK28 => ?_)
      refine wp_block ?_
      obtain ⟨t21, ht21, h⟩ := bind_some h
      refine wp_reg mixed [] hst (fun _ => .p rfl (op_move (.t 2 rfl)) <| .p rfl (op_move (.t 4 rfl)) <| .p rfl (op_move (.t 3 rfl)) <| .p rfl (op_index Try.underlying22 tok3 (.t 1 rfl) (.t 0 rfl) ht21) <| .p rfl (op_load tok3 (.t 0 rfl)) <| .p rfl (op_min (.t 4 rfl) (.t 0 rfl)) <| .p rfl (op_assign (.t 0 rfl)) <| .nil _) (by kernel_rfl) (fun n29 a w hst => ?_)
      replace hst : St M w0 25 [(3, tv (.int .i64 (imin s12.2 t21))), (4, tv (.int .i64 s12.1)), (0, tsl rI x_)] [] a w := (hst.pick [6, 8, 9])
      refine hK28 _ _ ?_
      clear hK28 K28
      refine wp_reg mixed [] hst (fun _ => .p rfl (op_move (.t 1 rfl)) <| .p rfl (op_add (.t 0 rfl) .k) <| .p rfl (op_assign (.t 0 rfl)) <| .nil _) (by kernel_rfl) (fun n30 a w hst => ?_)
      replace hst : St M w0 25 [(4, tv (.int .i64 (IntKind.i64.wrap (s12.1 + (1:Int))))), (3, tv (.int .i64 (imin s12.2 t21))), (0, tsl rI x_)] [] a w := (hst.pick [2, 3, 4])
      exact hK24 _ _ _ (Option.some.inj h).symm (hst.pick [0, 1, 2])
    · replace h := ite_f b31 h
      refine wp_exit ?_
      exact hJp21 _ _ _ (ho _ (Option.some.inj h).symm) (hst.pick [2])

/- diorama/learn.Blend -/
noncomputable def fBlend (a_ : (List Int)) (b_ : (List Int)) (share_ : SRatio) : Option ((List Int) × Int) := (fboth a_ b_).bind fun t17 => (if (t17 != (0:Int)) = true then (some (([] : List Int), t17)) else (fValid share_).bind fun t27 => (if ((((!t27) || (decide ((share_).P < (0:Int)))) || (decide ((share_).P > (imax (share_).Q (1:Int))))) || (decide ((imax (share_).Q (1:Int)) > (1024:Int)))) = true then (some (([] : List Int), (5:Int))) else (fsum a_).bind fun t43 => (fsum b_).bind fun t45 => (mk (a_.length : Int) (0:Int)).bind fun t48 => (tailrec (fun (s27 : Int × List Int) => ((if (decide (s27.1 < (t48.length : Int))) = true then (idx a_ s27.1).bind fun t61 => (idx b_ s27.1).bind fun t69 => (setAt s27.2 s27.1 (IntKind.i64.wrap ((IntKind.i64.wrap ((IntKind.i64.wrap ((IntKind.i64.wrap ((imax (share_).Q (1:Int)) - (share_).P)) * t61)) * t45)) + (IntKind.i64.wrap ((IntKind.i64.wrap ((share_).P * t69)) * t43))))).bind fun t75s => (some (.inl ((IntKind.i64.wrap (s27.1 + (1:Int))), t75s))) else (some (.inr s27.2))) : Option ((Int × List Int) ⊕ ((List Int))))) ((0:Int), t48)).bind fun (p39 : (List Int)) => (flowest p39).bind fun t78 => (fMax t78).bind fun t80 => (if (decide (t80 > (1048576:Int))) = true then (some (([] : List Int), (5:Int))) else (some (t78, (0:Int))))))
set_option maxRecDepth 100000 in
theorem Blend_ok {a_ : (List Int)} {b_ : (List Int)} {share_ : SRatio} {r : (List Int) × Int} (h : fBlend a_ b_ share_ = some r) : FnOk Try.prog 22 [tsl rI a_, tsl rI b_, rSRatio.ty share_] (some fun v => own rI 3 r.1 v) (fun v => ttup [tv v, tv (.int .i64 r.2)]) := by
  unfold fBlend at h
  refine FnOk.enter Try.func22 rfl Try.ntmps22 (Nat.le_of_ble_eq_true rfl) (fun M w0 a hst => ?_)
  replace hst : St M w0 83 [(0, tsl rI a_), (1, tsl rI b_), (2, rSRatio.ty share_)] [] a w0 := hst
  refine wp_seq_k (fun K1 hK1 => ?_)
  refine wp_reg mixed [] hst (fun _ => .p rfl (op_boxR (R := rSRatio) (u := share_) (.t 2 rfl)) <| .p rfl (op_assign .k) <| .p rfl (op_assign .k) <| .nil _) (by kernel_rfl) (fun n2 a w hst => ?_)
  replace hst : St M w0 83 [(5, tptr (rSRatio.cs share_)), (0, tsl rI a_), (1, tsl rI b_)] [] a w := (hst.pick [0, 3, 4])
  refine hK1 _ _ ?_
  clear hK1 K1
  refine wp_seq_k (fun K3 hK3 => ?_)
  refine wp_seq_k (fun K4 hK4 => ?_)
  obtain ⟨t17, ht17, h⟩ := bind_some h
  refine wp_reg mixed [] hst (fun _ => .p rfl (op_move (.t 1 rfl)) <| .p rfl (op_move (.t 3 rfl)) <| .p rfl (op_callF call51 (both_ok ht17) (.cons (.of (.t 1 rfl)) <| .cons (.of (.t 0 rfl)) <| .nil)) <| .p rfl (op_assign (.t 0 rfl)) <| .nil _) (by kernel_rfl) (fun n5 a w hst => ?_)
  replace hst : St M w0 83 [(8, tv (.int .i64 t17)), (5, tptr (rSRatio.cs share_)), (0, tsl rI a_), (1, tsl rI b_)] [] a w := (hst.pick [3, 4, 5, 6])
  refine hK4 _ _ ?_
  clear hK4 K4
  refine wp_seq_k (fun K6 hK6 => ?_)
  refine wp_reg mixed [] hst (fun _ => .p rfl (op_move (.t 0 rfl)) <| .p rfl (op_neq (.t 0 rfl) .k) <| .nil _) (by kernel_rfl) (fun n7 a w hst => ?_)
  replace hst : St M w0 83 [(19, tv (.bool (t17 != (0:Int)))), (8, tv (.int .i64 t17)), (5, tptr (rSRatio.cs share_)), (0, tsl rI a_), (1, tsl rI b_)] [] a w := (hst.pick [1, 2, 3, 4, 5])
  refine hK6 _ _ ?_
  clear hK6 K6
  refine wp_test 0 hst rfl (fun b64 => ?_) (fun b64 => ?_)
  · replace h := ite_t b64 h
    refine wp_seq_k (fun K8 hK8 => ?_)
    refine wp_reg mixed [] hst (fun _ => .p rfl (op_move (.t 1 rfl)) <| .p rfl (op_assign .k) <| .p rfl (op_assign (.t 1 rfl)) <| .nil _) (by kernel_rfl) (fun n9 a w hst => ?_)
    replace hst : St M w0 83 [(6, tv (.slice none 0 0)), (7, tv (.int .i64 t17))] [] a w := (hst.pick [1, 2])
    replace hst := hst.nil rI 3
    refine hK8 _ _ ?_
    clear hK8 K8
    refine wp_ret ?_
    obtain rfl := Option.some.inj h
    exact ret_st (.slice none 0 0) hst rfl (.tmp (.t 0 rfl) (.tmp (.t 1 rfl) .nil)) (fun g hg => (by cases hg; exact ⟨0, rfl⟩)) rfl
  · replace h := ite_f b64 h
    refine wp_skip ?_
    refine hK3 _ _ ?_
    clear hK3 K3
    refine wp_seq_k (fun K11 hK11 => ?_)
    refine wp_reg mixed [] hst (fun _ => .p rfl (op_field fld39_0 (.t 2 rfl)) <| .p rfl (op_loadT (u := (share_).P) tok3 (.t 0 rfl) rfl) <| .p rfl (op_field fld39_1 (.t 4 rfl)) <| .p rfl (op_loadT (u := (share_).Q) tok3 (.t 0 rfl) rfl) <| .p rfl (op_max (.t 0 rfl) .k) <| .p rfl (op_assign (.t 3 rfl)) <| .p rfl (op_assign (.t 1 rfl)) <| .nil _) (by kernel_rfl) (fun n12 a w hst => ?_)
    replace hst : St M w0 83 [(9, tv (.int .i64 (share_).P)), (10, tv (.int .i64 (imax (share_).Q (1:Int)))), (5, tptr (rSRatio.cs share_)), (0, tsl rI a_), (1, tsl rI b_)] [] a w := (hst.pick [5, 6, 9, 10, 11])
    refine hK11 _ _ ?_
    clear hK11 K11
    refine wp_seq_k (fun K13 hK13 => ?_)
    refine wp_seq_k (fun K14 hK14 => ?_)
    obtain ⟨t27, ht27, h⟩ := bind_some h
    refine wp_reg mixed [] hst (fun _ => .p rfl (op_load tok39 (.t 2 rfl)) <| .p rfl (op_callF call52 (Valid_ok ht27) (.cons (.of (.t 0 rfl)) <| .nil)) <| .p rfl (op_not (.t 0 rfl)) <| .p rfl (op_move (.t 0 rfl)) <| .g rfl rfl (.b 0 rfl) (fun _ => op_move (.t 4 rfl)) <| .g rfl rfl (.b 1 rfl) (fun hc => op_lss (.cond (.t 0 rfl) hc) .k) <| .p rfl (op_or (.t 2 rfl) (fun hp => (.cond (.t 0 rfl) (beqF hp)))) <| .p rfl (op_move (.t 0 rfl)) <| .g rfl rfl (.b 0 rfl) (fun _ => op_move (.t 8 rfl)) <| .g rfl rfl (.b 1 rfl) (fun _ => op_move (.t 10 rfl)) <| .g rfl rfl (.b 2 rfl) (fun hc => op_gtr (.cond (.t 1 rfl) hc) (.cond (.t 0 rfl) hc)) <| .p rfl (op_or (.t 3 rfl) (fun hp => (.cond (.t 0 rfl) (beqF hp)))) <| .p rfl (op_move (.t 0 rfl)) <| .g rfl rfl (.b 0 rfl) (fun _ => op_move (.t 14 rfl)) <| .g rfl rfl (.b 1 rfl) (fun hc => op_gtr (.cond (.t 0 rfl) hc) .k) <| .p rfl (op_or (.t 2 rfl) (fun hp => (.cond (.t 0 rfl) (beqF hp)))) <| .nil _) (by kernel_rfl) (fun n15 a w hst => ?_)
    replace hst : St M w0 83 [(41, tv (.bool ((((!t27) || (decide ((share_).P < (0:Int)))) || (decide ((share_).P > (imax (share_).Q (1:Int))))) || (decide ((imax (share_).Q (1:Int)) > (1024:Int)))))), (9, tv (.int .i64 (share_).P)), (10, tv (.int .i64 (imax (share_).Q (1:Int)))), (0, tsl rI a_), (1, tsl rI b_)] [] a w := (hst.pick [15, 16, 17, 19, 20])
    refine hK14 _ _ ?_
    clear hK14 K14
    refine wp_test 0 hst rfl (fun b63 => ?_) (fun b63 => ?_)
    · replace h := ite_t b63 h
      refine wp_seq_k (fun K16 hK16 => ?_)
      refine wp_reg mixed [] hst (fun _ => .p rfl (op_assign .k) <| .p rfl (op_assign .k) <| .nil _) (by kernel_rfl) (fun n17 a w hst => ?_)
      replace hst : St M w0 83 [(6, tv (.slice none 0 0)), (7, tv (.int .i64 (5:Int)))] [] a w := (hst.pick [0, 1])
      replace hst := hst.nil rI 3
      refine hK16 _ _ ?_
      clear hK16 K16
      refine wp_ret ?_
      obtain rfl := Option.some.inj h
      exact ret_st (.slice none 0 0) hst rfl (.tmp (.t 0 rfl) (.tmp (.t 1 rfl) .nil)) (fun g hg => (by cases hg; exact ⟨0, rfl⟩)) rfl
    · replace h := ite_f b63 h
      refine wp_skip ?_
      refine hK13 _ _ ?_
      clear hK13 K13
      refine wp_seq_k (fun K19 hK19 => ?_)
      obtain ⟨t43, ht43, h⟩ := bind_some h
      obtain ⟨t45, ht45, h⟩ := bind_some h
      refine wp_reg mixed [] hst (fun _ => .p rfl (op_move (.t 3 rfl)) <| .p rfl (op_callF call48 (sum_ok ht43) (.cons (.of (.t 0 rfl)) <| .nil)) <| .p rfl (op_move (.t 6 rfl)) <| .p rfl (op_callF call48 (sum_ok ht45) (.cons (.of (.t 0 rfl)) <| .nil)) <| .p rfl (op_assign (.t 2 rfl)) <| .p rfl (op_assign (.t 1 rfl)) <| .nil _) (by kernel_rfl) (fun n20 a w hst => ?_)
      replace hst : St M w0 83 [(11, tv (.int .i64 t43)), (12, tv (.int .i64 t45)), (9, tv (.int .i64 (share_).P)), (10, tv (.int .i64 (imax (share_).Q (1:Int)))), (0, tsl rI a_), (1, tsl rI b_)] [] a w := (hst.pick [4, 5, 7, 8, 9, 10])
      refine hK19 _ _ ?_
      clear hK19 K19
      refine wp_seq_k (fun K21 hK21 => ?_)
      obtain ⟨t48, ht48, h⟩ := bind_some h
      refine wp_reg mixed [(0, fun v => own rI 3 t48 v)] hst (fun _ => .p rfl (op_move (.t 4 rfl)) <| .p rfl (op_len Try.underlying22 (.t 0 rfl)) <| .m 0 [] rfl rfl rfl (op_makeO (R := rI) Try.underlying22 tok3 zok3 (Nat.le_of_ble_eq_true rfl) (.t 0 rfl) (.t 0 rfl) ht48) <| .pd (f := fun v => tv v) 0 rfl (op_assign (.t 0 rfl)) <| .nil _) (by kernel_rfl) (fun n22 a w hst => ?_)
      replace hst : St M w0 83 [(48, tv (n22 0)), (13, tv (n22 0)), (11, tv (.int .i64 t43)), (12, tv (.int .i64 t45)), (9, tv (.int .i64 (share_).P)), (10, tv (.int .i64 (imax (share_).Q (1:Int)))), (0, tsl rI a_), (1, tsl rI b_)] [own rI 3 t48 (n22 0)] a w := (hst.pick [2, 3, 4, 5, 6, 7, 8, 9])
      refine hK21 _ _ ?_
      clear hK21 K21
      refine wp_seq_k (fun K24 hK24 => ?_)
      refine wp_seq_k (fun K25 hK25 => ?_)
      refine wp_reg mixed [] hst (fun _ => .p rfl (op_move (.t 1 rfl)) <| .u [0] rfl rfl (op_lenO Try.underlying22 (.t 0 rfl)) <| .p rfl (op_move .k) <| .nil _) (by kernel_rfl) (fun n26 a w hst => ?_)
      replace hst : St M w0 83 [(49, tv (n22 0)), (50, tv (.int .i64 (t48.length : Int))), (51, tv (.int .i64 (0:Int))), (48, tv (n22 0)), (13, tv (n22 0)), (11, tv (.int .i64 t43)), (12, tv (.int .i64 t45)), (9, tv (.int .i64 (share_).P)), (10, tv (.int .i64 (imax (share_).Q (1:Int)))), (0, tsl rI a_), (1, tsl rI b_)] [own rI 3 t48 (n22 0)] a w := (hst.pick [0, 1, 2, 3, 4, 5, 6, 7, 8, 9, 10])
      refine hK25 _ _ ?_
      clear hK25 K25
      obtain ⟨e29, he29, h⟩ := bind_some h
      have hJp39 : ∀ (p39 : List Int) (v40 : Value) a w, p39 = e29 → St M w0 83 [(13, tv v40)] [own rI 3 p39 v40] a w → K24 a w := by
        intro p39 v40 a w he hst
        subst he
        refine hK24 _ _ ?_
        clear hK24 K24
        refine wp_seq_k (fun K41 hK41 => ?_)
        refine wp_seq_k (fun K42 hK42 => ?_)
        obtain ⟨t78, ht78, h⟩ := bind_some h
        refine wp_reg mixed [(1, fun v => own rI 3 t78 v)] hst (fun _ => .p rfl (op_move (.t 0 rfl)) <| .m 1 [0] rfl rfl rfl (op_callFU [own rI 3 p39 v40] call49 (lowest_ok ht78) (.cons (.own (.t 0 rfl) (.head _)) <| .nil) (fun _ => flat_tv) (fun h hh x => (by cases hh; exact flat_own (by intro x T h; simp at h; (first | (subst h; exact flat_tv) | (rcases h with h | h | h <;> subst h <;> exact flat_tv)))))) <| .pd (f := fun v => tv v) 1 rfl (op_assign (.t 0 rfl)) <| .nil _) (by kernel_rfl) (fun n43 a w hst => ?_)
        replace hst : St M w0 83 [(77, tv v40), (78, tv (n43 1)), (13, tv (n43 1))] [own rI 3 p39 v40, own rI 3 t78 (n43 1)] a w := (hst.pick [0, 1, 2])
        refine hK42 _ _ ?_
        clear hK42 K42
        refine wp_seq_k (fun K45 hK45 => ?_)
        obtain ⟨t80, ht80, h⟩ := bind_some h
        refine wp_reg mixed [] hst (fun _ => .p rfl (op_move (.t 2 rfl)) <| .u [1] rfl rfl (op_callFU [own rI 3 t78 (n43 1)] call53 (Max_ok ht80) (.cons (.own (.t 0 rfl) (.head _)) <| .nil) (fun _ => flat_tv) (fun h hh => (by cases hh))) <| .p rfl (op_gtr (.t 0 rfl) .k) <| .nil _) (by kernel_rfl) (fun n46 a w hst => ?_)
        replace hst : St M w0 83 [(79, tv (n43 1)), (81, tv (.bool (decide (t80 > (1048576:Int))))), (77, tv v40), (78, tv (n43 1)), (13, tv (n43 1))] [own rI 3 p39 v40, own rI 3 t78 (n43 1)] a w := (hst.pick [0, 2, 3, 4, 5])
        refine hK45 _ _ ?_
        clear hK45 K45
        refine wp_test 1 hst rfl (fun b52 => ?_) (fun b52 => ?_)
        · replace h := ite_t b52 h
          refine wp_seq_k (fun K47 hK47 => ?_)
          refine wp_reg mixed [] hst (fun _ => .p rfl (op_assign .k) <| .p rfl (op_assign .k) <| .nil _) (by kernel_rfl) (fun n48 a w hst => ?_)
          replace hst : St M w0 83 [(6, tv (.slice none 0 0)), (7, tv (.int .i64 (5:Int))), (79, tv (n43 1)), (77, tv v40), (78, tv (n43 1)), (13, tv (n43 1))] [own rI 3 p39 v40, own rI 3 t78 (n43 1)] a w := (hst.pick [0, 1, 2, 4, 5, 6])
          replace hst := hst.nil rI 3
          refine hK47 _ _ ?_
          clear hK47 K47
          refine wp_ret ?_
          obtain rfl := Option.some.inj h
          exact ret_st (.slice none 0 0) hst rfl (.tmp (.t 0 rfl) (.tmp (.t 1 rfl) .nil)) (fun g hg => (by cases hg; exact ⟨0, rfl⟩)) rfl
        · replace h := ite_f b52 h
          refine wp_skip ?_
          refine hK41 _ _ ?_
          clear hK41 K41
          refine wp_seq_k (fun K50 hK50 => ?_)
          refine wp_reg mixed [] hst (fun _ => .p rfl (op_move (.t 4 rfl)) <| .p rfl (op_assign (.t 0 rfl)) <| .p rfl (op_assign .k) <| .nil _) (by kernel_rfl) (fun n51 a w hst => ?_)
          replace hst : St M w0 83 [(82, tv (n43 1)), (6, tv (n43 1)), (7, tv (.int .i64 (0:Int))), (79, tv (n43 1)), (77, tv v40), (78, tv (n43 1)), (13, tv (n43 1))] [own rI 3 p39 v40, own rI 3 t78 (n43 1)] a w := (hst.pick [0, 1, 2, 3, 5, 6, 7])
          refine hK50 _ _ ?_
          clear hK50 K50
          refine wp_ret ?_
          obtain rfl := Option.some.inj h
          exact ret_st (n43 1) hst rfl (.tmp (.t 1 rfl) (.tmp (.t 2 rfl) .nil)) (fun g hg => (by cases hg; exact ⟨1, rfl⟩)) rfl
      refine wp_block ?_
      refine wp_loopK _ (fun (s27 : Int × List Int) a w => ∃ v28 : Value, St M w0 83 [(50, tv (.int .i64 (t48.length : Int))), (51, tv (.int .i64 s27.1)), (13, tv v28), (11, tv (.int .i64 t43)), (12, tv (.int .i64 t45)), (9, tv (.int .i64 (share_).P)), (10, tv (.int .i64 (imax (share_).Q (1:Int)))), (0, tsl rI a_), (1, tsl rI b_)] [own rI 3 s27.2 v28] a w) _ _ he29 ⟨(n22 0), hst.pick [1, 2, 4, 5, 6, 7, 8, 9, 10]⟩ ?_
      clear h
      intro s27 o a w K53 hI h ho hK53
      obtain ⟨v28, hst⟩ := hI
      refine wp_seq_k (fun K54 hK54 => ?_)
      refine wp_reg mixed [] hst (fun _ => .p rfl (op_lss (.t 1 rfl) (.t 0 rfl)) <| .nil _) (by kernel_rfl) (fun n55 a w hst => ?_)
      replace hst : St M w0 83 [(52, tv (.bool (decide (s27.1 < (t48.length : Int))))), (50, tv (.int .i64 (t48.length : Int))), (51, tv (.int .i64 s27.1)), (13, tv v28), (11, tv (.int .i64 t43)), (12, tv (.int .i64 t45)), (9, tv (.int .i64 (share_).P)), (10, tv (.int .i64 (imax (share_).Q (1:Int)))), (0, tsl rI a_), (1, tsl rI b_)] [own rI 3 s27.2 v28] a w := (hst.pick [0, 1, 2, 3, 4, 5, 6, 7, 8, 9])
      refine hK54 _ _ ?_
      clear hK54 K54
      refine wp_seq_k (fun K56 hK56 => ?_)
      refine wp_test 0 hst rfl (fun b62 => ?_) (fun b62 => ?_)
      · replace h := ite_t b62 h
        refine wp_skip ?_
        refine hK56 _ _ ?_
        clear hK56 K56
        refine wp_seq_k (fun K57 hK57 => ?_)
        refine wp_block ?_
        refine wp_seq_k (fun K58 hK58 => ?_)
        refine wp_reg mixed [] hst (fun _ => .p rfl (op_move (.t 2 rfl)) <| .p rfl (op_assign (.t 0 rfl)) <| .nil _) (by kernel_rfl) (fun n59 a w hst => ?_)
        replace hst : St M w0 83 [(14, tv (.int .i64 s27.1)), (50, tv (.int .i64 (t48.length : Int))), (51, tv (.int .i64 s27.1)), (13, tv v28), (11, tv (.int .i64 t43)), (12, tv (.int .i64 t45)), (9, tv (.int .i64 (share_).P)), (10, tv (.int .i64 (imax (share_).Q (1:Int)))), (0, tsl rI a_), (1, tsl rI b_)] [own rI 3 s27.2 v28] a w := (hst.pick [1, 3, 4, 5, 6, 7, 8, 9, 10, 11])
        refine hK58 _ _ ?_
        clear hK58 K58
        obtain ⟨t61, ht61, h⟩ := bind_some h
        obtain ⟨t69, ht69, h⟩ := bind_some h
        obtain ⟨t75s, ht75s, h⟩ := bind_some h
        refine wp_reg mixed [(1, fun _ => own rI 3 t75s v28)] hst (fun _ => .p rfl (op_move (.t 3 rfl)) <| .p rfl (op_move (.t 1 rfl)) <| .p rfl (op_move (.t 9 rfl)) <| .p rfl (op_move (.t 9 rfl)) <| .p rfl (op_sub (.t 1 rfl) (.t 0 rfl)) <| .p rfl (op_move (.t 13 rfl)) <| .p rfl (op_move (.t 6 rfl)) <| .p rfl (op_index Try.underlying22 tok3 (.t 1 rfl) (.t 0 rfl) ht61) <| .p rfl (op_load tok3 (.t 0 rfl)) <| .p rfl (op_mul (.t 4 rfl) (.t 0 rfl)) <| .p rfl (op_move (.t 15 rfl)) <| .p rfl (op_mul (.t 1 rfl) (.t 0 rfl)) <| .p rfl (op_move (.t 18 rfl)) <| .p rfl (op_move (.t 22 rfl)) <| .p rfl (op_move (.t 14 rfl)) <| .p rfl (op_index Try.underlying22 tok3 (.t 1 rfl) (.t 0 rfl) ht69) <| .p rfl (op_load tok3 (.t 0 rfl)) <| .p rfl (op_mul (.t 4 rfl) (.t 0 rfl)) <| .p rfl (op_move (.t 22 rfl)) <| .p rfl (op_mul (.t 1 rfl) (.t 0 rfl)) <| .p rfl (op_add (.t 8 rfl) (.t 0 rfl)) <| .u [0] rfl rfl (op_indexOs Try.underlying22 tok3 (.t 20 rfl) (.t 19 rfl) ht75s) <| .e 0 1 [] rfl rfl rfl rfl (op_storeO tok3 (.t 0 rfl) (.t 1 rfl) ht75s) <| .nil _) (by kernel_rfl) (fun n60 a w hst => ?_)
        replace hst : St M w0 83 [(54, tv v28), (50, tv (.int .i64 (t48.length : Int))), (51, tv (.int .i64 s27.1)), (13, tv v28), (11, tv (.int .i64 t43)), (12, tv (.int .i64 t45)), (9, tv (.int .i64 (share_).P)), (10, tv (.int .i64 (imax (share_).Q (1:Int)))), (0, tsl rI a_), (1, tsl rI b_)] [own rI 3 t75s v28] a w := (hst.pick [0, 23, 24, 25, 26, 27, 28, 29, 30, 31])
        refine hK57 _ _ ?_
        clear hK57 K57
        refine wp_reg mixed [] hst (fun _ => .p rfl (op_add (.t 2 rfl) .k) <| .p rfl (op_move (.t 0 rfl)) <| .nil _) (by kernel_rfl) (fun n61 a w hst => ?_)
        replace hst : St M w0 83 [(51, tv (.int .i64 (IntKind.i64.wrap (s27.1 + (1:Int))))), (54, tv v28), (50, tv (.int .i64 (t48.length : Int))), (13, tv v28), (11, tv (.int .i64 t43)), (12, tv (.int .i64 t45)), (9, tv (.int .i64 (share_).P)), (10, tv (.int .i64 (imax (share_).Q (1:Int)))), (0, tsl rI a_), (1, tsl rI b_)] [own rI 3 t75s v28] a w := (hst.pick [1, 2, 3, 4, 5, 6, 7, 8, 9, 10])
        exact hK53 _ _ _ (Option.some.inj h).symm ⟨v28, hst.pick [2, 0, 3, 4, 5, 6, 7, 8, 9]⟩
      · replace h := ite_f b62 h
        refine wp_exit ?_
        exact hJp39 _ v28 _ _ (ho _ (Option.some.inj h).symm) (hst.pick [3])


end Go.Proofs.Ytjniiejgccdhiaa
