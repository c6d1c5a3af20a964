/- Go functions as Lean functions, and the proofs that they compute them, written by a program. No condition. -/
import Derived.Test.YtjniiejgccdhiaaGenD
namespace Go.Proofs.Ytjniiejgccdhiaa
open Go.Sim

/- diorama/ratio.Make -/
noncomputable def fMake (p_ : Int) (q_ : Int) : Option (SRatio × Int) := (if (q_ == (0:Int)) = true then (some ((SRatio.mk (0:Int) (0:Int)), (1:Int))) else (fsize p_).bind fun t14 => (fsize q_).bind fun t16 => (fgcdU t14 t16).bind fun t19 => (nz t19).bind fun _ => (nz t19).bind fun _ => (if ((decide ((IntKind.u64.wrap (Int.tdiv t14 t19)) > (2147483648:Int))) || (decide ((IntKind.u64.wrap (Int.tdiv t16 t19)) > (2147483648:Int)))) = true then (some ((SRatio.mk (0:Int) (0:Int)), (5:Int))) else ((if ((decide (p_ < (0:Int))) != (decide (q_ < (0:Int)))) = true then (some { (SRatio.mk (IntKind.i64.wrap (IntKind.u64.wrap (Int.tdiv t14 t19))) (IntKind.i64.wrap (IntKind.u64.wrap (Int.tdiv t16 t19)))) with P := (IntKind.i64.wrap (0 - ((SRatio.mk (IntKind.i64.wrap (IntKind.u64.wrap (Int.tdiv t14 t19))) (IntKind.i64.wrap (IntKind.u64.wrap (Int.tdiv t16 t19))))).P)) }) else (some (SRatio.mk (IntKind.i64.wrap (IntKind.u64.wrap (Int.tdiv t14 t19))) (IntKind.i64.wrap (IntKind.u64.wrap (Int.tdiv t16 t19))))))).bind fun (p26 : SRatio) => (some (p26, (0:Int)))))
set_option maxRecDepth 100000 in
theorem Make_ok {p_ : Int} {q_ : Int} {r : SRatio × Int} (h : fMake p_ q_ = some r) : FnOk Try.prog 25 [tv (.int .i64 p_), tv (.int .i64 q_)] none (fun _ => ttup [rSRatio.ty r.1, tv (.int .i64 r.2)]) := by
  unfold fMake at h
  refine FnOk.enter Try.func25 rfl Try.ntmps25 (Nat.le_of_ble_eq_true rfl) (fun M w0 a hst => ?_)
  replace hst : St M w0 48 [(0, tv (.int .i64 p_)), (1, tv (.int .i64 q_))] [] a w0 := hst
  refine wp_seq_k (fun K1 hK1 => ?_)
  refine wp_reg mixed [(0, fun v => box (rSRatio.cs (SRatio.mk (0:Int) (0:Int))) v)] hst (fun _ => .m 0 [] rfl rfl rfl (op_alloc (R := rSRatio) (a := (SRatio.mk (0:Int) (0:Int))) tok39 zok39) <| .p rfl (op_assign .k) <| .nil _) (by kernel_rfl) (fun n2 a w hst => ?_)
  replace hst : St M w0 48 [(4, tv (n2 0)), (0, tv (.int .i64 p_)), (1, tv (.int .i64 q_))] [box (rSRatio.cs (SRatio.mk (0:Int) (0:Int))) (n2 0)] a w := (hst.pick [0, 2, 3])
  refine hK1 _ _ ?_
  clear hK1 K1
  refine wp_seq_k (fun K4 hK4 => ?_)
  refine wp_seq_k (fun K5 hK5 => ?_)
  refine wp_reg mixed [] hst (fun _ => .p rfl (op_move (.t 2 rfl)) <| .p rfl (op_eql (.t 0 rfl) .k) <| .nil _) (by kernel_rfl) (fun n6 a w hst => ?_)
  replace hst : St M w0 48 [(11, tv (.bool (q_ == (0:Int)))), (4, tv (n2 0)), (0, tv (.int .i64 p_)), (1, tv (.int .i64 q_))] [box (rSRatio.cs (SRatio.mk (0:Int) (0:Int))) (n2 0)] a w := (hst.pick [1, 2, 3, 4])
  refine hK5 _ _ ?_
  clear hK5 K5
  refine wp_test 0 hst rfl (fun b34 => ?_) (fun b34 => ?_)
  · replace h := ite_t b34 h
    refine wp_seq_k (fun K7 hK7 => ?_)
    refine wp_reg mixed [(1, fun _ => box (rSRatio.cs (SRatio.mk (0:Int) (0:Int))) (n2 0))] hst (fun _ => .p (T := rSRatio.ty (SRatio.mk (0:Int) (0:Int))) rfl (op_build Try.underlying39 pl39 zv39 zc39 (.nil _)) <| .e 0 1 [] rfl rfl rfl rfl (op_storeB (R := rSRatio) (a := (SRatio.mk (0:Int) (0:Int))) tok39 (.t 2 rfl) (.t 0 rfl) (Nat.le_of_ble_eq_true rfl)) <| .p rfl (op_assign .k) <| .nil _) (by kernel_rfl) (fun n8 a w hst => ?_)
    replace hst : St M w0 48 [(5, tv (.int .i64 (1:Int))), (4, tv (n2 0))] [box (rSRatio.cs (SRatio.mk (0:Int) (0:Int))) (n2 0)] a w := (hst.pick [1, 3])
    refine hK7 _ _ ?_
    clear hK7 K7
    refine wp_ret ?_
    obtain rfl := Option.some.inj h
    exact ret_st undef hst rfl (.cell (R := rSRatio) (u := (SRatio.mk (0:Int) (0:Int))) tok39 (.t 1 rfl) 0 rfl rfl (.tmp (.t 0 rfl) .nil)) (fun g hg => (by cases hg)) rfl
  · replace h := ite_f b34 h
    refine wp_skip ?_
    refine hK4 _ _ ?_
    clear hK4 K4
    refine wp_seq_k (fun K9 hK9 => ?_)
    obtain ⟨t14, ht14, h⟩ := bind_some h
    obtain ⟨t16, ht16, h⟩ := bind_some h
    refine wp_reg mixed [] hst (fun _ => .p rfl (op_move (.t 2 rfl)) <| .p rfl (op_callF call56 (size_ok ht14) (.cons (.of (.t 0 rfl)) <| .nil)) <| .p rfl (op_move (.t 5 rfl)) <| .p rfl (op_callF call56 (size_ok ht16) (.cons (.of (.t 0 rfl)) <| .nil)) <| .p rfl (op_assign (.t 2 rfl)) <| .p rfl (op_assign (.t 1 rfl)) <| .nil _) (by kernel_rfl) (fun n10 a w hst => ?_)
    replace hst : St M w0 48 [(6, tv (.int .u64 t14)), (7, tv (.int .u64 t16)), (4, tv (n2 0)), (0, tv (.int .i64 p_)), (1, tv (.int .i64 q_))] [box (rSRatio.cs (SRatio.mk (0:Int) (0:Int))) (n2 0)] a w := (hst.pick [4, 5, 7, 8, 9])
    refine hK9 _ _ ?_
    clear hK9 K9
    refine wp_seq_k (fun K11 hK11 => ?_)
    obtain ⟨t19, ht19, h⟩ := bind_some h
    refine wp_reg mixed [] hst (fun _ => .p rfl (op_move (.t 0 rfl)) <| .p rfl (op_move (.t 2 rfl)) <| .p rfl (op_callF call57 (gcdU_ok ht19) (.cons (.of (.t 1 rfl)) <| .cons (.of (.t 0 rfl)) <| .nil)) <| .p rfl (op_assign (.t 0 rfl)) <| .nil _) (by kernel_rfl) (fun n12 a w hst => ?_)
    replace hst : St M w0 48 [(8, tv (.int .u64 t19)), (6, tv (.int .u64 t14)), (7, tv (.int .u64 t16)), (4, tv (n2 0)), (0, tv (.int .i64 p_)), (1, tv (.int .i64 q_))] [box (rSRatio.cs (SRatio.mk (0:Int) (0:Int))) (n2 0)] a w := (hst.pick [3, 4, 5, 6, 7, 8])
    refine hK11 _ _ ?_
    clear hK11 K11
    refine wp_seq_k (fun K13 hK13 => ?_)
    obtain ⟨u22, hu22, h⟩ := bind_some h
    obtain ⟨u25, hu25, h⟩ := bind_some h
    refine wp_reg mixed [] hst (fun _ => .p rfl (op_move (.t 1 rfl)) <| .p rfl (op_move (.t 1 rfl)) <| .p rfl (op_quo (.t 1 rfl) (.t 0 rfl) (nz_ne hu22)) <| .p rfl (op_move (.t 5 rfl)) <| .p rfl (op_move (.t 4 rfl)) <| .p rfl (op_quo (.t 1 rfl) (.t 0 rfl) (nz_ne hu25)) <| .p rfl (op_assign (.t 3 rfl)) <| .p rfl (op_assign (.t 1 rfl)) <| .nil _) (by kernel_rfl) (fun n14 a w hst => ?_)
    replace hst : St M w0 48 [(6, tv (.int .u64 (IntKind.u64.wrap (Int.tdiv t14 t19)))), (7, tv (.int .u64 (IntKind.u64.wrap (Int.tdiv t16 t19)))), (4, tv (n2 0)), (0, tv (.int .i64 p_)), (1, tv (.int .i64 q_))] [box (rSRatio.cs (SRatio.mk (0:Int) (0:Int))) (n2 0)] a w := (hst.pick [6, 7, 9, 10, 11])
    refine hK13 _ _ ?_
    clear hK13 K13
    refine wp_seq_k (fun K15 hK15 => ?_)
    refine wp_seq_k (fun K16 hK16 => ?_)
    refine wp_reg mixed [] hst (fun _ => .p rfl (op_move (.t 0 rfl)) <| .p rfl (op_gtr (.t 0 rfl) .k) <| .p rfl (op_move (.t 0 rfl)) <| .g rfl rfl (.b 0 rfl) (fun _ => op_move (.t 4 rfl)) <| .g rfl rfl (.b 1 rfl) (fun hc => op_gtr (.cond (.t 0 rfl) hc) .k) <| .p rfl (op_or (.t 2 rfl) (fun hp => (.cond (.t 0 rfl) (beqF hp)))) <| .nil _) (by kernel_rfl) (fun n17 a w hst => ?_)
    replace hst : St M w0 48 [(31, tv (.bool ((decide ((IntKind.u64.wrap (Int.tdiv t14 t19)) > (2147483648:Int))) || (decide ((IntKind.u64.wrap (Int.tdiv t16 t19)) > (2147483648:Int)))))), (6, tv (.int .u64 (IntKind.u64.wrap (Int.tdiv t14 t19)))), (7, tv (.int .u64 (IntKind.u64.wrap (Int.tdiv t16 t19)))), (4, tv (n2 0)), (0, tv (.int .i64 p_)), (1, tv (.int .i64 q_))] [box (rSRatio.cs (SRatio.mk (0:Int) (0:Int))) (n2 0)] a w := (hst.pick [5, 6, 7, 8, 9, 10])
    refine hK16 _ _ ?_
    clear hK16 K16
    refine wp_test 0 hst rfl (fun b33 => ?_) (fun b33 => ?_)
    · replace h := ite_t b33 h
      refine wp_seq_k (fun K18 hK18 => ?_)
      refine wp_reg mixed [(1, fun _ => box (rSRatio.cs (SRatio.mk (0:Int) (0:Int))) (n2 0))] hst (fun _ => .p (T := rSRatio.ty (SRatio.mk (0:Int) (0:Int))) rfl (op_build Try.underlying39 pl39 zv39 zc39 (.nil _)) <| .e 0 1 [] rfl rfl rfl rfl (op_storeB (R := rSRatio) (a := (SRatio.mk (0:Int) (0:Int))) tok39 (.t 4 rfl) (.t 0 rfl) (Nat.le_of_ble_eq_true rfl)) <| .p rfl (op_assign .k) <| .nil _) (by kernel_rfl) (fun n19 a w hst => ?_)
      replace hst : St M w0 48 [(5, tv (.int .i64 (5:Int))), (4, tv (n2 0))] [box (rSRatio.cs (SRatio.mk (0:Int) (0:Int))) (n2 0)] a w := (hst.pick [1, 5])
      refine hK18 _ _ ?_
      clear hK18 K18
      refine wp_ret ?_
      obtain rfl := Option.some.inj h
      exact ret_st undef hst rfl (.cell (R := rSRatio) (u := (SRatio.mk (0:Int) (0:Int))) tok39 (.t 1 rfl) 0 rfl rfl (.tmp (.t 0 rfl) .nil)) (fun g hg => (by cases hg)) rfl
    · replace h := ite_f b33 h
      refine wp_skip ?_
      refine hK15 _ _ ?_
      clear hK15 K15
      refine wp_seq_k (fun K20 hK20 => ?_)
      refine wp_reg mixed [(1, fun v => box (rSRatio.cs (SRatio.mk (0:Int) (0:Int))) v), (1, fun v => box (rSRatio.cs (SRatio.mk (IntKind.i64.wrap (IntKind.u64.wrap (Int.tdiv t14 t19))) (IntKind.i64.wrap (IntKind.u64.wrap (Int.tdiv t16 t19))))) v)] hst (fun _ => .p rfl (op_move (.t 1 rfl)) <| .p rfl (op_conv Try.underlying78 Try.underlying3 (.t 0 rfl)) <| .p rfl (op_move (.t 4 rfl)) <| .p rfl (op_conv Try.underlying78 Try.underlying3 (.t 0 rfl)) <| .p (T := rSRatio.ty (SRatio.mk (IntKind.i64.wrap (IntKind.u64.wrap (Int.tdiv t14 t19))) (IntKind.i64.wrap (IntKind.u64.wrap (Int.tdiv t16 t19))))) rfl (op_build Try.underlying39 pl39 zv39 zc39 (.cons (R := rI) (u := (IntKind.i64.wrap (IntKind.u64.wrap (Int.tdiv t14 t19)))) rfl (.t 2 rfl) (Nat.le_of_ble_eq_true rfl) <| .cons (R := rI) (u := (IntKind.i64.wrap (IntKind.u64.wrap (Int.tdiv t16 t19)))) rfl (.t 0 rfl) (Nat.le_of_ble_eq_true rfl) <| .nil _)) <| .m 1 [] rfl rfl rfl (op_alloc (R := rSRatio) (a := (SRatio.mk (0:Int) (0:Int))) tok39 zok39) <| .e 1 2 [] rfl rfl rfl rfl (op_storeB (R := rSRatio) (a := (SRatio.mk (IntKind.i64.wrap (IntKind.u64.wrap (Int.tdiv t14 t19))) (IntKind.i64.wrap (IntKind.u64.wrap (Int.tdiv t16 t19))))) tok39 (.t 0 rfl) (.t 1 rfl) (Nat.le_of_ble_eq_true rfl)) <| .nil _) (by kernel_rfl) (fun n21 a w hst => ?_)
      replace hst : St M w0 48 [(9, tv (n21 1)), (4, tv (n2 0)), (0, tv (.int .i64 p_)), (1, tv (.int .i64 q_))] [box (rSRatio.cs (SRatio.mk (0:Int) (0:Int))) (n2 0), box (rSRatio.cs (SRatio.mk (IntKind.i64.wrap (IntKind.u64.wrap (Int.tdiv t14 t19))) (IntKind.i64.wrap (IntKind.u64.wrap (Int.tdiv t16 t19))))) (n21 1)] a w := (hst.pick [5, 9, 10, 11])
      refine hK20 _ _ ?_
      clear hK20 K20
      refine wp_seq_k (fun K23 hK23 => ?_)
      refine wp_seq_k (fun K24 hK24 => ?_)
      refine wp_reg mixed [] hst (fun _ => .p rfl (op_move (.t 2 rfl)) <| .p rfl (op_lss (.t 0 rfl) .k) <| .p rfl (op_move (.t 5 rfl)) <| .p rfl (op_lss (.t 0 rfl) .k) <| .p rfl (op_neqB Try.underlying4 (.t 2 rfl) (.t 0 rfl)) <| .nil _) (by kernel_rfl) (fun n25 a w hst => ?_)
      replace hst : St M w0 48 [(42, tv (.bool ((decide (p_ < (0:Int))) != (decide (q_ < (0:Int)))))), (9, tv (n21 1)), (4, tv (n2 0))] [box (rSRatio.cs (SRatio.mk (0:Int) (0:Int))) (n2 0), box (rSRatio.cs (SRatio.mk (IntKind.i64.wrap (IntKind.u64.wrap (Int.tdiv t14 t19))) (IntKind.i64.wrap (IntKind.u64.wrap (Int.tdiv t16 t19))))) (n21 1)] a w := (hst.pick [4, 5, 6])
      refine hK24 _ _ ?_
      clear hK24 K24
      obtain ⟨p26, hp26, h⟩ := bind_some h
      have hJp26 : ∀ a w, St M w0 48 [(9, tv (n21 1)), (4, tv (n2 0))] [box (rSRatio.cs (SRatio.mk (0:Int) (0:Int))) (n2 0), box (rSRatio.cs p26) (n21 1)] a w → K23 a w := by
        intro a w hst
        refine hK23 _ _ ?_
        clear hK23 K23
        refine wp_seq_k (fun K29 hK29 => ?_)
        refine wp_reg mixed [(2, fun _ => box (rSRatio.cs p26) (n2 0))] hst (fun _ => .u [1] rfl rfl (op_loadB (R := rSRatio) (u := p26) tok39 (.t 0 rfl) rfl) <| .e 0 2 [] rfl rfl rfl rfl (op_storeB (R := rSRatio) (a := p26) tok39 (.t 2 rfl) (.t 0 rfl) (Nat.le_of_ble_eq_true rfl)) <| .p rfl (op_assign .k) <| .nil _) (by kernel_rfl) (fun n30 a w hst => ?_)
        replace hst : St M w0 48 [(5, tv (.int .i64 (0:Int))), (4, tv (n2 0))] [box (rSRatio.cs p26) (n2 0)] a w := (hst.pick [1, 3]).keepA [false, true]
        refine hK29 _ _ ?_
        clear hK29 K29
        refine wp_ret ?_
        obtain rfl := Option.some.inj h
        exact ret_st undef hst rfl (.cell (R := rSRatio) (u := p26) tok39 (.t 1 rfl) 0 rfl rfl (.tmp (.t 0 rfl) .nil)) (fun g hg => (by cases hg)) rfl
      replace h := hp26
      clear hp26
      refine wp_test 0 hst rfl (fun b32 => ?_) (fun b32 => ?_)
      · replace h := ite_t b32 h
        refine wp_reg mixed [(2, fun _ => box (rSRatio.cs { (SRatio.mk (IntKind.i64.wrap (IntKind.u64.wrap (Int.tdiv t14 t19))) (IntKind.i64.wrap (IntKind.u64.wrap (Int.tdiv t16 t19)))) with P := (IntKind.i64.wrap (0 - ((SRatio.mk (IntKind.i64.wrap (IntKind.u64.wrap (Int.tdiv t14 t19))) (IntKind.i64.wrap (IntKind.u64.wrap (Int.tdiv t16 t19))))).P)) }) (n21 1))] hst (fun _ => .u [1] rfl rfl (op_fieldB fld39_0 (.t 1 rfl)) <| .u [1] rfl rfl (op_loadBf (R := rI) (u := ((SRatio.mk (IntKind.i64.wrap (IntKind.u64.wrap (Int.tdiv t14 t19))) (IntKind.i64.wrap (IntKind.u64.wrap (Int.tdiv t16 t19))))).P) tok3 (.t 0 rfl) rfl) <| .p rfl (op_neg (.t 0 rfl)) <| .u [1] rfl rfl (op_fieldB fld39_0 (.t 4 rfl)) <| .e 1 2 [] rfl rfl rfl rfl (op_storeBf (R := rI) (a := (IntKind.i64.wrap (0 - ((SRatio.mk (IntKind.i64.wrap (IntKind.u64.wrap (Int.tdiv t14 t19))) (IntKind.i64.wrap (IntKind.u64.wrap (Int.tdiv t16 t19))))).P))) (Ts := rSRatio.cs (SRatio.mk (IntKind.i64.wrap (IntKind.u64.wrap (Int.tdiv t14 t19))) (IntKind.i64.wrap (IntKind.u64.wrap (Int.tdiv t16 t19))))) (off := 0) tok3 (.t 0 rfl) (.t 1 rfl) (Nat.le_of_ble_eq_true rfl)) <| .nil _) (by kernel_rfl) (fun n31 a w hst => ?_)
        replace hst : St M w0 48 [(9, tv (n21 1)), (4, tv (n2 0))] [box (rSRatio.cs (SRatio.mk (0:Int) (0:Int))) (n2 0), box (rSRatio.cs { (SRatio.mk (IntKind.i64.wrap (IntKind.u64.wrap (Int.tdiv t14 t19))) (IntKind.i64.wrap (IntKind.u64.wrap (Int.tdiv t16 t19)))) with P := (IntKind.i64.wrap (0 - ((SRatio.mk (IntKind.i64.wrap (IntKind.u64.wrap (Int.tdiv t14 t19))) (IntKind.i64.wrap (IntKind.u64.wrap (Int.tdiv t16 t19))))).P)) }) (n21 1)] a w := (hst.pick [5, 6])
        obtain rfl := Option.some.inj h
        exact hJp26 _ _ (hst.pick [0, 1])
      · replace h := ite_f b32 h
        refine wp_skip ?_
        obtain rfl := Option.some.inj h
        exact hJp26 _ _ (hst.pick [1, 2])

/- diorama/learn.Far -/
noncomputable def fFar (a_ : (List Int)) (b_ : (List Int)) : Option (SRatio × Int) := (fboth a_ b_).bind fun t16 => (if (t16 != (0:Int)) = true then (some ((SRatio.mk (0:Int) (0:Int)), t16)) else (fsum a_).bind fun t22 => (fsum b_).bind fun t24 => (tailrec (fun (s18 : Int × Int) => ((if (decide (s18.1 < (a_.length : Int))) = true then (idx a_ s18.1).bind fun t33 => (idx b_ s18.1).bind fun t39 => (idx b_ s18.1).bind fun t46 => (idx a_ s18.1).bind fun t52 => (some (.inl ((IntKind.i64.wrap (s18.1 + (1:Int))), (IntKind.i64.wrap (s18.2 + (imax (IntKind.i64.wrap ((IntKind.i64.wrap (t33 * t24)) - (IntKind.i64.wrap (t39 * t22)))) (IntKind.i64.wrap ((IntKind.i64.wrap (t46 * t22)) - (IntKind.i64.wrap (t52 * t24)))))))))) else (some (.inr s18.2))) : Option ((Int × Int) ⊕ ((Int))))) ((0:Int), (0:Int))).bind fun (p29 : (Int)) => (fgcd [p29, (IntKind.i64.wrap ((IntKind.i64.wrap ((2:Int) * t22)) * t24))]).bind fun t66 => (nz t66).bind fun _ => (nz t66).bind fun _ => (fMake (IntKind.i64.wrap (Int.tdiv p29 t66)) (IntKind.i64.wrap (Int.tdiv (IntKind.i64.wrap ((IntKind.i64.wrap ((2:Int) * t22)) * t24)) t66))).bind fun t77 => (if (t77.2 != (0:Int)) = true then (some ((SRatio.mk (0:Int) (0:Int)), (5:Int))) else (some (t77.1, (0:Int)))))
set_option maxRecDepth 100000 in
theorem Far_ok {a_ : (List Int)} {b_ : (List Int)} {r : SRatio × Int} (h : fFar a_ b_ = some r) : FnOk Try.prog 26 [tsl rI a_, tsl rI b_] none (fun _ => ttup [rSRatio.ty r.1, tv (.int .i64 r.2)]) := by
  unfold fFar at h
  refine FnOk.enter Try.func26 rfl Try.ntmps26 (Nat.le_of_ble_eq_true rfl) (fun M w0 a hst => ?_)
  replace hst : St M w0 84 [(0, tsl rI a_), (1, tsl rI b_)] [] a w0 := hst
  refine wp_seq_k (fun K1 hK1 => ?_)
  refine wp_reg mixed [(0, fun v => box (rSRatio.cs (SRatio.mk (0:Int) (0:Int))) v)] hst (fun _ => .m 0 [] rfl rfl rfl (op_alloc (R := rSRatio) (a := (SRatio.mk (0:Int) (0:Int))) tok39 zok39) <| .p rfl (op_assign .k) <| .nil _) (by kernel_rfl) (fun n2 a w hst => ?_)
  replace hst : St M w0 84 [(4, tv (n2 0)), (0, tsl rI a_), (1, tsl rI b_)] [box (rSRatio.cs (SRatio.mk (0:Int) (0:Int))) (n2 0)] a w := (hst.pick [0, 2, 3])
  refine hK1 _ _ ?_
  clear hK1 K1
  refine wp_seq_k (fun K4 hK4 => ?_)
  refine wp_seq_k (fun K5 hK5 => ?_)
  obtain ⟨t16, ht16, h⟩ := bind_some h
  refine wp_reg mixed [] hst (fun _ => .p rfl (op_move (.t 1 rfl)) <| .p rfl (op_move (.t 3 rfl)) <| .p rfl (op_callF call51 (both_ok ht16) (.cons (.of (.t 1 rfl)) <| .cons (.of (.t 0 rfl)) <| .nil)) <| .p rfl (op_assign (.t 0 rfl)) <| .nil _) (by kernel_rfl) (fun n6 a w hst => ?_)
  replace hst : St M w0 84 [(6, tv (.int .i64 t16)), (4, tv (n2 0)), (0, tsl rI a_), (1, tsl rI b_)] [box (rSRatio.cs (SRatio.mk (0:Int) (0:Int))) (n2 0)] a w := (hst.pick [3, 4, 5, 6])
  refine hK5 _ _ ?_
  clear hK5 K5
  refine wp_seq_k (fun K7 hK7 => ?_)
  refine wp_reg mixed [] hst (fun _ => .p rfl (op_move (.t 0 rfl)) <| .p rfl (op_neq (.t 0 rfl) .k) <| .nil _) (by kernel_rfl) (fun n8 a w hst => ?_)
  replace hst : St M w0 84 [(18, tv (.bool (t16 != (0:Int)))), (6, tv (.int .i64 t16)), (4, tv (n2 0)), (0, tsl rI a_), (1, tsl rI b_)] [box (rSRatio.cs (SRatio.mk (0:Int) (0:Int))) (n2 0)] a w := (hst.pick [1, 2, 3, 4, 5])
  refine hK7 _ _ ?_
  clear hK7 K7
  refine wp_test 0 hst rfl (fun b53 => ?_) (fun b53 => ?_)
  · replace h := ite_t b53 h
    refine wp_seq_k (fun K9 hK9 => ?_)
    refine wp_reg mixed [(1, fun _ => box (rSRatio.cs (SRatio.mk (0:Int) (0:Int))) (n2 0))] hst (fun _ => .p (T := rSRatio.ty (SRatio.mk (0:Int) (0:Int))) rfl (op_build Try.underlying39 pl39 zv39 zc39 (.nil _)) <| .p rfl (op_move (.t 2 rfl)) <| .e 0 1 [] rfl rfl rfl rfl (op_storeB (R := rSRatio) (a := (SRatio.mk (0:Int) (0:Int))) tok39 (.t 4 rfl) (.t 1 rfl) (Nat.le_of_ble_eq_true rfl)) <| .p rfl (op_assign (.t 0 rfl)) <| .nil _) (by kernel_rfl) (fun n10 a w hst => ?_)
    replace hst : St M w0 84 [(5, tv (.int .i64 t16)), (4, tv (n2 0))] [box (rSRatio.cs (SRatio.mk (0:Int) (0:Int))) (n2 0)] a w := (hst.pick [2, 5])
    refine hK9 _ _ ?_
    clear hK9 K9
    refine wp_ret ?_
    obtain rfl := Option.some.inj h
    exact ret_st undef hst rfl (.cell (R := rSRatio) (u := (SRatio.mk (0:Int) (0:Int))) tok39 (.t 1 rfl) 0 rfl rfl (.tmp (.t 0 rfl) .nil)) (fun g hg => (by cases hg)) rfl
  · replace h := ite_f b53 h
    refine wp_skip ?_
    refine hK4 _ _ ?_
    clear hK4 K4
    refine wp_seq_k (fun K11 hK11 => ?_)
    obtain ⟨t22, ht22, h⟩ := bind_some h
    obtain ⟨t24, ht24, h⟩ := bind_some h
    refine wp_reg mixed [] hst (fun _ => .p rfl (op_move (.t 3 rfl)) <| .p rfl (op_callF call48 (sum_ok ht22) (.cons (.of (.t 0 rfl)) <| .nil)) <| .p rfl (op_move (.t 6 rfl)) <| .p rfl (op_callF call48 (sum_ok ht24) (.cons (.of (.t 0 rfl)) <| .nil)) <| .p rfl (op_assign (.t 2 rfl)) <| .p rfl (op_assign (.t 1 rfl)) <| .nil _) (by kernel_rfl) (fun n12 a w hst => ?_)
    replace hst : St M w0 84 [(7, tv (.int .i64 t22)), (8, tv (.int .i64 t24)), (4, tv (n2 0)), (0, tsl rI a_), (1, tsl rI b_)] [box (rSRatio.cs (SRatio.mk (0:Int) (0:Int))) (n2 0)] a w := (hst.pick [4, 5, 8, 9, 10])
    refine hK11 _ _ ?_
    clear hK11 K11
    refine wp_seq_k (fun K13 hK13 => ?_)
    refine wp_reg mixed [] hst (fun _ => .p rfl (op_assign .k) <| .nil _) (by kernel_rfl) (fun n14 a w hst => ?_)
    replace hst : St M w0 84 [(9, tv (.int .i64 (0:Int))), (7, tv (.int .i64 t22)), (8, tv (.int .i64 t24)), (4, tv (n2 0)), (0, tsl rI a_), (1, tsl rI b_)] [box (rSRatio.cs (SRatio.mk (0:Int) (0:Int))) (n2 0)] a w := (hst.pick [0, 1, 2, 3, 4, 5])
    refine hK13 _ _ ?_
    clear hK13 K13
    refine wp_seq_k (fun K15 hK15 => ?_)
    refine wp_seq_k (fun K16 hK16 => ?_)
    refine wp_reg mixed [] hst (fun _ => .p rfl (op_move (.t 4 rfl)) <| .p rfl (op_len Try.underlying22 (.t 0 rfl)) <| .p rfl (op_move .k) <| .nil _) (by kernel_rfl) (fun n17 a w hst => ?_)
    replace hst : St M w0 84 [(26, tv (.int .i64 (a_.length : Int))), (27, tv (.int .i64 (0:Int))), (9, tv (.int .i64 (0:Int))), (7, tv (.int .i64 t22)), (8, tv (.int .i64 t24)), (4, tv (n2 0)), (0, tsl rI a_), (1, tsl rI b_)] [box (rSRatio.cs (SRatio.mk (0:Int) (0:Int))) (n2 0)] a w := (hst.pick [1, 2, 3, 4, 5, 6, 7, 8])
    refine hK16 _ _ ?_
    clear hK16 K16
    obtain ⟨e19, he19, h⟩ := bind_some h
    have hJp29 : ∀ (p29 : Int) a w, p29 = e19 → St M w0 84 [(9, tv (.int .i64 p29)), (7, tv (.int .i64 t22)), (8, tv (.int .i64 t24)), (4, tv (n2 0))] [box (rSRatio.cs (SRatio.mk (0:Int) (0:Int))) (n2 0)] a w → K15 a w := by
      intro p29 a w he hst
      subst he
      refine hK15 _ _ ?_
      clear hK15 K15
      refine wp_seq_k (fun K30 hK30 => ?_)
      obtain ⟨t66, ht66, h⟩ := bind_some h
      refine wp_reg mixed [] hst (fun _ => .p rfl (op_move (.t 0 rfl)) <| .p rfl (op_move (.t 2 rfl)) <| .p rfl (op_mul .k (.t 0 rfl)) <| .p rfl (op_move (.t 5 rfl)) <| .p rfl (op_mul (.t 1 rfl) (.t 0 rfl)) <| .p rfl (op_buildSl (R := rI) (us := [p29, (IntKind.i64.wrap ((IntKind.i64.wrap ((2:Int) * t22)) * t24))]) Try.underlying22 tok3 (.cons (.t 4 rfl) <| .cons (.t 0 rfl) <| .nil _) rfl (Nat.le_of_ble_eq_true rfl)) <| .p rfl (op_callF call58 (gcd_ok ht66) (.cons (.of (.t 0 rfl)) <| .nil)) <| .p rfl (op_assign (.t 0 rfl)) <| .nil _) (by kernel_rfl) (fun n31 a w hst => ?_)
      replace hst : St M w0 84 [(11, tv (.int .i64 t66)), (9, tv (.int .i64 p29)), (7, tv (.int .i64 t22)), (8, tv (.int .i64 t24)), (4, tv (n2 0))] [box (rSRatio.cs (SRatio.mk (0:Int) (0:Int))) (n2 0)] a w := (hst.pick [7, 8, 9, 10, 11])
      refine hK30 _ _ ?_
      clear hK30 K30
      refine wp_seq_k (fun K32 hK32 => ?_)
      obtain ⟨u70, hu70, h⟩ := bind_some h
      obtain ⟨u76, hu76, h⟩ := bind_some h
      obtain ⟨t77, ht77, h⟩ := bind_some h
      refine wp_reg mixed [(1, fun v => box (rSRatio.cs (SRatio.mk (0:Int) (0:Int))) v), (1, fun v => box (rSRatio.cs t77.1) v)] hst (fun _ => .p rfl (op_move (.t 1 rfl)) <| .p rfl (op_move (.t 1 rfl)) <| .p rfl (op_quo (.t 1 rfl) (.t 0 rfl) (nz_ne hu70)) <| .p rfl (op_move (.t 5 rfl)) <| .p rfl (op_mul .k (.t 0 rfl)) <| .p rfl (op_move (.t 8 rfl)) <| .p rfl (op_mul (.t 1 rfl) (.t 0 rfl)) <| .p rfl (op_move (.t 7 rfl)) <| .p rfl (op_quo (.t 1 rfl) (.t 0 rfl) (nz_ne hu76)) <| .p rfl (op_callF call25 (Make_ok ht77) (.cons (.of (.t 6 rfl)) <| .cons (.of (.t 0 rfl)) <| .nil)) <| .p rfl (op_move (.t 0 rfl)) <| .p rfl (op_extract (.t 0 rfl) rfl) <| .p rfl (op_extract (.t 1 rfl) rfl) <| .m 1 [] rfl rfl rfl (op_alloc (R := rSRatio) (a := (SRatio.mk (0:Int) (0:Int))) tok39 zok39) <| .e 1 2 [] rfl rfl rfl rfl (op_storeB (R := rSRatio) (a := t77.1) tok39 (.t 0 rfl) (.t 2 rfl) (Nat.le_of_ble_eq_true rfl)) <| .p rfl (op_assign (.t 1 rfl)) <| .nil _) (by kernel_rfl) (fun n33 a w hst => ?_)
      replace hst : St M w0 84 [(12, tv (n33 1)), (13, tv (.int .i64 t77.2)), (4, tv (n2 0))] [box (rSRatio.cs (SRatio.mk (0:Int) (0:Int))) (n2 0), box (rSRatio.cs t77.1) (n33 1)] a w := (hst.pick [13, 14, 19])
      refine hK32 _ _ ?_
      clear hK32 K32
      refine wp_seq_k (fun K35 hK35 => ?_)
      refine wp_seq_k (fun K36 hK36 => ?_)
      refine wp_reg mixed [] hst (fun _ => .p rfl (op_move (.t 1 rfl)) <| .p rfl (op_neq (.t 0 rfl) .k) <| .nil _) (by kernel_rfl) (fun n37 a w hst => ?_)
      replace hst : St M w0 84 [(81, tv (.bool (t77.2 != (0:Int)))), (12, tv (n33 1)), (4, tv (n2 0))] [box (rSRatio.cs (SRatio.mk (0:Int) (0:Int))) (n2 0), box (rSRatio.cs t77.1) (n33 1)] a w := (hst.pick [1, 2, 4])
      refine hK36 _ _ ?_
      clear hK36 K36
      refine wp_test 0 hst rfl (fun b42 => ?_) (fun b42 => ?_)
      · replace h := ite_t b42 h
        refine wp_seq_k (fun K38 hK38 => ?_)
        refine wp_reg mixed [(2, fun _ => box (rSRatio.cs (SRatio.mk (0:Int) (0:Int))) (n2 0))] hst (fun _ => .p (T := rSRatio.ty (SRatio.mk (0:Int) (0:Int))) rfl (op_build Try.underlying39 pl39 zv39 zc39 (.nil _)) <| .e 0 2 [] rfl rfl rfl rfl (op_storeB (R := rSRatio) (a := (SRatio.mk (0:Int) (0:Int))) tok39 (.t 3 rfl) (.t 0 rfl) (Nat.le_of_ble_eq_true rfl)) <| .p rfl (op_assign .k) <| .nil _) (by kernel_rfl) (fun n39 a w hst => ?_)
        replace hst : St M w0 84 [(5, tv (.int .i64 (5:Int))), (4, tv (n2 0))] [box (rSRatio.cs (SRatio.mk (0:Int) (0:Int))) (n2 0)] a w := (hst.pick [1, 4]).keepA [false, true]
        refine hK38 _ _ ?_
        clear hK38 K38
        refine wp_ret ?_
        obtain rfl := Option.some.inj h
        exact ret_st undef hst rfl (.cell (R := rSRatio) (u := (SRatio.mk (0:Int) (0:Int))) tok39 (.t 1 rfl) 0 rfl rfl (.tmp (.t 0 rfl) .nil)) (fun g hg => (by cases hg)) rfl
      · replace h := ite_f b42 h
        refine wp_skip ?_
        refine hK35 _ _ ?_
        clear hK35 K35
        refine wp_seq_k (fun K40 hK40 => ?_)
        refine wp_reg mixed [(2, fun _ => box (rSRatio.cs t77.1) (n2 0))] hst (fun _ => .u [1] rfl rfl (op_loadB (R := rSRatio) (u := t77.1) tok39 (.t 1 rfl) rfl) <| .e 0 2 [] rfl rfl rfl rfl (op_storeB (R := rSRatio) (a := t77.1) tok39 (.t 3 rfl) (.t 0 rfl) (Nat.le_of_ble_eq_true rfl)) <| .p rfl (op_assign .k) <| .nil _) (by kernel_rfl) (fun n41 a w hst => ?_)
        replace hst : St M w0 84 [(5, tv (.int .i64 (0:Int))), (4, tv (n2 0))] [box (rSRatio.cs t77.1) (n2 0)] a w := (hst.pick [1, 4]).keepA [false, true]
        refine hK40 _ _ ?_
        clear hK40 K40
        refine wp_ret ?_
        obtain rfl := Option.some.inj h
        exact ret_st undef hst rfl (.cell (R := rSRatio) (u := t77.1) tok39 (.t 1 rfl) 0 rfl rfl (.tmp (.t 0 rfl) .nil)) (fun g hg => (by cases hg)) rfl
    refine wp_block ?_
    refine wp_loopK _ (fun (s18 : Int × Int) a w => St M w0 84 [(26, tv (.int .i64 (a_.length : Int))), (27, tv (.int .i64 s18.1)), (9, tv (.int .i64 s18.2)), (7, tv (.int .i64 t22)), (8, tv (.int .i64 t24)), (4, tv (n2 0)), (0, tsl rI a_), (1, tsl rI b_)] [box (rSRatio.cs (SRatio.mk (0:Int) (0:Int))) (n2 0)] a w) _ _ he19 (hst.pick [0, 1, 2, 3, 4, 5, 6, 7]) ?_
    clear h
    intro s18 o a w K43 hI h ho hK43
    have hst := hI
    clear hI
    refine wp_seq_k (fun K44 hK44 => ?_)
    refine wp_reg mixed [] hst (fun _ => .p rfl (op_lss (.t 1 rfl) (.t 0 rfl)) <| .nil _) (by kernel_rfl) (fun n45 a w hst => ?_)
    replace hst : St M w0 84 [(28, tv (.bool (decide (s18.1 < (a_.length : Int))))), (26, tv (.int .i64 (a_.length : Int))), (27, tv (.int .i64 s18.1)), (9, tv (.int .i64 s18.2)), (7, tv (.int .i64 t22)), (8, tv (.int .i64 t24)), (4, tv (n2 0)), (0, tsl rI a_), (1, tsl rI b_)] [box (rSRatio.cs (SRatio.mk (0:Int) (0:Int))) (n2 0)] a w := (hst.pick [0, 1, 2, 3, 4, 5, 6, 7, 8])
    refine hK44 _ _ ?_
    clear hK44 K44
    refine wp_seq_k (fun K46 hK46 => ?_)
    refine wp_test 0 hst rfl (fun b52 => ?_) (fun b52 => ?_)
    · replace h := ite_t b52 h
      refine wp_skip ?_
      refine hK46 _ _ ?_
      clear hK46 K46
      refine wp_seq_k (fun K47 hK47 => ?_)
      refine wp_block ?_
      refine wp_seq_k (fun K48 hK48 => ?_)
      refine wp_reg mixed [] hst (fun _ => .p rfl (op_move (.t 2 rfl)) <| .p rfl (op_assign (.t 0 rfl)) <| .nil _) (by kernel_rfl) (fun n49 a w hst => ?_)
      replace hst : St M w0 84 [(10, tv (.int .i64 s18.1)), (26, tv (.int .i64 (a_.length : Int))), (27, tv (.int .i64 s18.1)), (9, tv (.int .i64 s18.2)), (7, tv (.int .i64 t22)), (8, tv (.int .i64 t24)), (4, tv (n2 0)), (0, tsl rI a_), (1, tsl rI b_)] [box (rSRatio.cs (SRatio.mk (0:Int) (0:Int))) (n2 0)] a w := (hst.pick [1, 3, 4, 5, 6, 7, 8, 9, 10])
      refine hK48 _ _ ?_
      clear hK48 K48
      obtain ⟨t33, ht33, h⟩ := bind_some h
      obtain ⟨t39, ht39, h⟩ := bind_some h
      obtain ⟨t46, ht46, h⟩ := bind_some h
      obtain ⟨t52, ht52, h⟩ := bind_some h
      refine wp_reg mixed [] hst (fun _ => .p rfl (op_move (.t 3 rfl)) <| .p rfl (op_move (.t 8 rfl)) <| .p rfl (op_move (.t 2 rfl)) <| .p rfl (op_index Try.underlying22 tok3 (.t 1 rfl) (.t 0 rfl) ht33) <| .p rfl (op_load tok3 (.t 0 rfl)) <| .p rfl (op_move (.t 10 rfl)) <| .p rfl (op_mul (.t 1 rfl) (.t 0 rfl)) <| .p rfl (op_move (.t 15 rfl)) <| .p rfl (op_move (.t 8 rfl)) <| .p rfl (op_index Try.underlying22 tok3 (.t 1 rfl) (.t 0 rfl) ht39) <| .p rfl (op_load tok3 (.t 0 rfl)) <| .p rfl (op_move (.t 15 rfl)) <| .p rfl (op_mul (.t 1 rfl) (.t 0 rfl)) <| .p rfl (op_sub (.t 6 rfl) (.t 0 rfl)) <| .p rfl (op_move (.t 22 rfl)) <| .p rfl (op_move (.t 15 rfl)) <| .p rfl (op_index Try.underlying22 tok3 (.t 1 rfl) (.t 0 rfl) ht46) <| .p rfl (op_load tok3 (.t 0 rfl)) <| .p rfl (op_move (.t 22 rfl)) <| .p rfl (op_mul (.t 1 rfl) (.t 0 rfl)) <| .p rfl (op_move (.t 27 rfl)) <| .p rfl (op_move (.t 21 rfl)) <| .p rfl (op_index Try.underlying22 tok3 (.t 1 rfl) (.t 0 rfl) ht52) <| .p rfl (op_load tok3 (.t 0 rfl)) <| .p rfl (op_move (.t 29 rfl)) <| .p rfl (op_mul (.t 1 rfl) (.t 0 rfl)) <| .p rfl (op_sub (.t 6 rfl) (.t 0 rfl)) <| .p rfl (op_max (.t 13 rfl) (.t 0 rfl)) <| .p rfl (op_add (.t 27 rfl) (.t 0 rfl)) <| .p rfl (op_assign (.t 0 rfl)) <| .nil _) (by kernel_rfl) (fun n50 a w hst => ?_)
      replace hst : St M w0 84 [(9, tv (.int .i64 (IntKind.i64.wrap (s18.2 + (imax (IntKind.i64.wrap ((IntKind.i64.wrap (t33 * t24)) - (IntKind.i64.wrap (t39 * t22)))) (IntKind.i64.wrap ((IntKind.i64.wrap (t46 * t22)) - (IntKind.i64.wrap (t52 * t24))))))))), (26, tv (.int .i64 (a_.length : Int))), (27, tv (.int .i64 s18.1)), (7, tv (.int .i64 t22)), (8, tv (.int .i64 t24)), (4, tv (n2 0)), (0, tsl rI a_), (1, tsl rI b_)] [box (rSRatio.cs (SRatio.mk (0:Int) (0:Int))) (n2 0)] a w := (hst.pick [29, 31, 32, 33, 34, 35, 36, 37])
      refine hK47 _ _ ?_
      clear hK47 K47
      refine wp_reg mixed [] hst (fun _ => .p rfl (op_add (.t 2 rfl) .k) <| .p rfl (op_move (.t 0 rfl)) <| .nil _) (by kernel_rfl) (fun n51 a w hst => ?_)
      replace hst : St M w0 84 [(27, tv (.int .i64 (IntKind.i64.wrap (s18.1 + (1:Int))))), (9, tv (.int .i64 (IntKind.i64.wrap (s18.2 + (imax (IntKind.i64.wrap ((IntKind.i64.wrap (t33 * t24)) - (IntKind.i64.wrap (t39 * t22)))) (IntKind.i64.wrap ((IntKind.i64.wrap (t46 * t22)) - (IntKind.i64.wrap (t52 * t24))))))))), (26, tv (.int .i64 (a_.length : Int))), (7, tv (.int .i64 t22)), (8, tv (.int .i64 t24)), (4, tv (n2 0)), (0, tsl rI a_), (1, tsl rI b_)] [box (rSRatio.cs (SRatio.mk (0:Int) (0:Int))) (n2 0)] a w := (hst.pick [1, 2, 3, 4, 5, 6, 7, 8])
      exact hK43 _ _ _ (Option.some.inj h).symm (hst.pick [2, 0, 1, 3, 4, 5, 6, 7])
    · replace h := ite_f b52 h
      refine wp_exit ?_
      exact hJp29 _ _ _ (ho _ (Option.some.inj h).symm) (hst.pick [3, 4, 5, 6])

/- diorama/ratio.proper -/
noncomputable def fproper (a_ : SRatio) : Option (SRatio) := ((if ((a_).Q == (0:Int)) = true then (some { a_ with Q := (1:Int) }) else (some a_))).bind fun (p8 : SRatio) => (some p8)
set_option maxRecDepth 100000 in
theorem proper_ok {a_ : SRatio} {r : SRatio} (h : fproper a_ = some r) : FnOk Try.prog 82 [rSRatio.ty a_] none (fun _ => rSRatio.ty r) := by
  unfold fproper at h
  refine FnOk.enter Try.func82 rfl Try.ntmps82 (Nat.le_of_ble_eq_true rfl) (fun M w0 a hst => ?_)
  replace hst : St M w0 8 [(0, rSRatio.ty a_)] [] a w0 := hst
  refine wp_seq_k (fun K1 hK1 => ?_)
  refine wp_reg mixed [(0, fun v => box (rSRatio.cs a_) v), (1, fun v => box (rSRatio.cs (SRatio.mk (0:Int) (0:Int))) v)] hst (fun _ => .m 0 [] rfl rfl rfl (op_box (R := rSRatio) (u := a_) (.t 0 rfl)) <| .m 1 [] rfl rfl rfl (op_alloc (R := rSRatio) (a := (SRatio.mk (0:Int) (0:Int))) tok39 zok39) <| .nil _) (by kernel_rfl) (fun n2 a w hst => ?_)
  replace hst : St M w0 8 [(1, tv (n2 0)), (2, tv (n2 1))] [box (rSRatio.cs a_) (n2 0), box (rSRatio.cs (SRatio.mk (0:Int) (0:Int))) (n2 1)] a w := (hst.pick [0, 1])
  refine hK1 _ _ ?_
  clear hK1 K1
  refine wp_seq_k (fun K5 hK5 => ?_)
  refine wp_seq_k (fun K6 hK6 => ?_)
  refine wp_reg mixed [] hst (fun _ => .u [0] rfl rfl (op_fieldB fld39_1 (.t 0 rfl)) <| .u [0] rfl rfl (op_loadBf (R := rI) (u := (a_).Q) tok3 (.t 0 rfl) rfl) <| .p rfl (op_eql (.t 0 rfl) .k) <| .nil _) (by kernel_rfl) (fun n7 a w hst => ?_)
  replace hst : St M w0 8 [(5, tv (.bool ((a_).Q == (0:Int)))), (1, tv (n2 0)), (2, tv (n2 1))] [box (rSRatio.cs a_) (n2 0), box (rSRatio.cs (SRatio.mk (0:Int) (0:Int))) (n2 1)] a w := (hst.pick [2, 3, 4])
  refine hK6 _ _ ?_
  clear hK6 K6
  obtain ⟨p8, hp8, h⟩ := bind_some h
  have hJp8 : ∀ a w, St M w0 8 [(1, tv (n2 0)), (2, tv (n2 1))] [box (rSRatio.cs (SRatio.mk (0:Int) (0:Int))) (n2 1), box (rSRatio.cs p8) (n2 0)] a w → K5 a w := by
    intro a w hst
    refine hK5 _ _ ?_
    clear hK5 K5
    refine wp_seq_k (fun K11 hK11 => ?_)
    refine wp_reg mixed [(2, fun _ => box (rSRatio.cs p8) (n2 1))] hst (fun _ => .u [1] rfl rfl (op_loadB (R := rSRatio) (u := p8) tok39 (.t 0 rfl) rfl) <| .e 0 2 [] rfl rfl rfl rfl (op_storeB (R := rSRatio) (a := p8) tok39 (.t 2 rfl) (.t 0 rfl) (Nat.le_of_ble_eq_true rfl)) <| .nil _) (by kernel_rfl) (fun n12 a w hst => ?_)
    replace hst : St M w0 8 [(2, tv (n2 1))] [box (rSRatio.cs p8) (n2 1)] a w := (hst.pick [2]).keepA [false, true]
    refine hK11 _ _ ?_
    clear hK11 K11
    refine wp_ret ?_
    obtain rfl := Option.some.inj h
    exact ret_st undef hst rfl (.cell (R := rSRatio) (u := p8) tok39 (.t 0 rfl) 0 rfl rfl .nil) (fun g hg => (by cases hg)) rfl
  replace h := hp8
  clear hp8
  refine wp_test 0 hst rfl (fun b14 => ?_) (fun b14 => ?_)
  · replace h := ite_t b14 h
    refine wp_reg mixed [(2, fun _ => box (rSRatio.cs { a_ with Q := (1:Int) }) (n2 0))] hst (fun _ => .u [0] rfl rfl (op_fieldB fld39_1 (.t 1 rfl)) <| .e 0 2 [] rfl rfl rfl rfl (op_storeBf (R := rI) (a := (1:Int)) (Ts := rSRatio.cs a_) (off := 1) tok3 (.t 0 rfl) .k (Nat.le_of_ble_eq_true rfl)) <| .nil _) (by kernel_rfl) (fun n13 a w hst => ?_)
    replace hst : St M w0 8 [(1, tv (n2 0)), (2, tv (n2 1))] [box (rSRatio.cs (SRatio.mk (0:Int) (0:Int))) (n2 1), box (rSRatio.cs { a_ with Q := (1:Int) }) (n2 0)] a w := (hst.pick [2, 3])
    obtain rfl := Option.some.inj h
    exact hJp8 _ _ (hst.pick [0, 1])
  · replace h := ite_f b14 h
    refine wp_skip ?_
    obtain rfl := Option.some.inj h
    exact hJp8 _ _ ((hst.pick [1, 2]).perm (.swap _ _ _))

/- diorama/ratio.both -/
noncomputable def fbothQ (a_ : SRatio) (b_ : SRatio) : Option (SRatio × SRatio × Bool) := (fproper a_).bind fun t8 => (fproper b_).bind fun t10 => (fValid a_).bind fun t12 => (opt (t12 == true) (fValid b_) default).bind fun t15 => (some (t8, t10, (t12 && t15)))
set_option maxRecDepth 100000 in
theorem bothQ_ok {a_ : SRatio} {b_ : SRatio} {r : SRatio × SRatio × Bool} (h : fbothQ a_ b_ = some r) : FnOk Try.prog 59 [rSRatio.ty a_, rSRatio.ty b_] none (fun _ => ttup [rSRatio.ty r.1, rSRatio.ty r.2.1, tv (.bool r.2.2)]) := by
  unfold fbothQ at h
  refine FnOk.enter Try.func59 rfl Try.ntmps59 (Nat.le_of_ble_eq_true rfl) (fun M w0 a hst => ?_)
  replace hst : St M w0 17 [(0, rSRatio.ty a_), (1, rSRatio.ty b_)] [] a w0 := hst
  refine wp_seq_k (fun K1 hK1 => ?_)
  refine wp_reg mixed [(0, fun v => box (rSRatio.cs (SRatio.mk (0:Int) (0:Int))) v), (1, fun v => box (rSRatio.cs (SRatio.mk (0:Int) (0:Int))) v)] hst (fun _ => .p rfl (op_boxR (R := rSRatio) (u := a_) (.t 0 rfl)) <| .p rfl (op_boxR (R := rSRatio) (u := b_) (.t 2 rfl)) <| .m 0 [] rfl rfl rfl (op_alloc (R := rSRatio) (a := (SRatio.mk (0:Int) (0:Int))) tok39 zok39) <| .m 1 [] rfl rfl rfl (op_alloc (R := rSRatio) (a := (SRatio.mk (0:Int) (0:Int))) tok39 zok39) <| .p rfl (op_assign .k) <| .nil _) (by kernel_rfl) (fun n2 a w hst => ?_)
  replace hst : St M w0 17 [(2, tptr (rSRatio.cs a_)), (3, tptr (rSRatio.cs b_)), (4, tv (n2 0)), (5, tv (n2 1))] [box (rSRatio.cs (SRatio.mk (0:Int) (0:Int))) (n2 0), box (rSRatio.cs (SRatio.mk (0:Int) (0:Int))) (n2 1)] a w := (hst.pick [0, 1, 2, 3])
  refine hK1 _ _ ?_
  clear hK1 K1
  refine wp_seq_k (fun K5 hK5 => ?_)
  obtain ⟨t8, ht8, h⟩ := bind_some h
  obtain ⟨t10, ht10, h⟩ := bind_some h
  obtain ⟨t12, ht12, h⟩ := bind_some h
  obtain ⟨t15, ht15, h⟩ := bind_some h
  refine wp_reg mixed [(2, fun _ => box (rSRatio.cs t8) (n2 0)), (3, fun _ => box (rSRatio.cs t10) (n2 1))] hst (fun _ => .p rfl (op_load tok39 (.t 0 rfl)) <| .p rfl (op_callF call82 (proper_ok ht8) (.cons (.of (.t 0 rfl)) <| .nil)) <| .p rfl (op_load tok39 (.t 3 rfl)) <| .p rfl (op_callF call82 (proper_ok ht10) (.cons (.of (.t 0 rfl)) <| .nil)) <| .p rfl (op_load tok39 (.t 4 rfl)) <| .p rfl (op_callF call52 (Valid_ok ht12) (.cons (.of (.t 0 rfl)) <| .nil)) <| .p rfl (op_move (.t 0 rfl)) <| .g rfl rfl (.b 0 rfl) (fun _ => op_load tok39 (.t 8 rfl)) <| .g rfl rfl (.b 1 rfl) (fun hc => op_callF call52 (Valid_ok (opt_t ht15 hc)) (.cons (.of (.cond (.t 0 rfl) hc)) <| .nil)) <| .p rfl (op_and (.t 2 rfl) (fun hp => (.cond (.t 0 rfl) (beqT hp)))) <| .e 0 2 [] rfl rfl rfl rfl (op_storeB (R := rSRatio) (a := t8) tok39 (.t 12 rfl) (.t 8 rfl) (Nat.le_of_ble_eq_true rfl)) <| .e 1 3 [] rfl rfl rfl rfl (op_storeB (R := rSRatio) (a := t10) tok39 (.t 13 rfl) (.t 6 rfl) (Nat.le_of_ble_eq_true rfl)) <| .p rfl (op_assign (.t 0 rfl)) <| .nil _) (by kernel_rfl) (fun n6 a w hst => ?_)
  replace hst : St M w0 17 [(6, tv (.bool (t12 && t15))), (4, tv (n2 0)), (5, tv (n2 1))] [box (rSRatio.cs t8) (n2 0), box (rSRatio.cs t10) (n2 1)] a w := (hst.pick [10, 13, 14])
  refine hK5 _ _ ?_
  clear hK5 K5
  refine wp_ret ?_
  obtain rfl := Option.some.inj h
  exact ret_st undef hst rfl (.cell (R := rSRatio) (u := t8) tok39 (.t 1 rfl) 0 rfl rfl (.cell (R := rSRatio) (u := t10) tok39 (.t 2 rfl) 1 rfl rfl (.tmp (.t 0 rfl) .nil))) (fun g hg => (by cases hg)) rfl

/- diorama/ratio.Mul -/
noncomputable def fMul (a_ : SRatio) (b_ : SRatio) : Option (SRatio × Int) := (fbothQ a_ b_).bind fun t10 => (if (!t10.2.2) = true then (some ((SRatio.mk (0:Int) (0:Int)), (1:Int))) else (fMake (IntKind.i64.wrap ((t10.1).P * (t10.2.1).P)) (IntKind.i64.wrap ((t10.1).Q * (t10.2.1).Q))).bind fun t27 => (some (t27.1, t27.2)))
set_option maxRecDepth 100000 in
theorem Mul_ok {a_ : SRatio} {b_ : SRatio} {r : SRatio × Int} (h : fMul a_ b_ = some r) : FnOk Try.prog 27 [rSRatio.ty a_, rSRatio.ty b_] none (fun _ => ttup [rSRatio.ty r.1, tv (.int .i64 r.2)]) := by
  unfold fMul at h
  refine FnOk.enter Try.func27 rfl Try.ntmps27 (Nat.le_of_ble_eq_true rfl) (fun M w0 a hst => ?_)
  replace hst : St M w0 30 [(0, rSRatio.ty a_), (1, rSRatio.ty b_)] [] a w0 := hst
  refine wp_seq_k (fun K1 hK1 => ?_)
  refine wp_reg mixed [(0, fun v => box (rSRatio.cs a_) v), (1, fun v => box (rSRatio.cs b_) v), (2, fun v => box (rSRatio.cs (SRatio.mk (0:Int) (0:Int))) v)] hst (fun _ => .m 0 [] rfl rfl rfl (op_box (R := rSRatio) (u := a_) (.t 0 rfl)) <| .m 1 [] rfl rfl rfl (op_box (R := rSRatio) (u := b_) (.t 2 rfl)) <| .m 2 [] rfl rfl rfl (op_alloc (R := rSRatio) (a := (SRatio.mk (0:Int) (0:Int))) tok39 zok39) <| .p rfl (op_assign .k) <| .nil _) (by kernel_rfl) (fun n2 a w hst => ?_)
  replace hst : St M w0 30 [(2, tv (n2 0)), (3, tv (n2 1)), (4, tv (n2 2))] [box (rSRatio.cs a_) (n2 0), box (rSRatio.cs b_) (n2 1), box (rSRatio.cs (SRatio.mk (0:Int) (0:Int))) (n2 2)] a w := (hst.pick [0, 1, 2])
  refine hK1 _ _ ?_
  clear hK1 K1
  refine wp_seq_k (fun K6 hK6 => ?_)
  obtain ⟨t10, ht10, h⟩ := bind_some h
  refine wp_reg mixed [(3, fun _ => box (rSRatio.cs t10.1) (n2 0)), (4, fun _ => box (rSRatio.cs t10.2.1) (n2 1))] hst (fun _ => .u [0] rfl rfl (op_loadB (R := rSRatio) (u := a_) tok39 (.t 0 rfl) rfl) <| .u [1] rfl rfl (op_loadB (R := rSRatio) (u := b_) tok39 (.t 2 rfl) rfl) <| .p rfl (op_callF call59 (bothQ_ok ht10) (.cons (.of (.t 1 rfl)) <| .cons (.of (.t 0 rfl)) <| .nil)) <| .p rfl (op_move (.t 0 rfl)) <| .p rfl (op_extract (.t 0 rfl) rfl) <| .p rfl (op_extract (.t 1 rfl) rfl) <| .p rfl (op_extract (.t 2 rfl) rfl) <| .e 0 3 [] rfl rfl rfl rfl (op_storeB (R := rSRatio) (a := t10.1) tok39 (.t 7 rfl) (.t 2 rfl) (Nat.le_of_ble_eq_true rfl)) <| .e 1 4 [] rfl rfl rfl rfl (op_storeB (R := rSRatio) (a := t10.2.1) tok39 (.t 8 rfl) (.t 1 rfl) (Nat.le_of_ble_eq_true rfl)) <| .p rfl (op_assign (.t 0 rfl)) <| .nil _) (by kernel_rfl) (fun n7 a w hst => ?_)
  replace hst : St M w0 30 [(6, tv (.bool t10.2.2)), (2, tv (n2 0)), (3, tv (n2 1)), (4, tv (n2 2))] [box (rSRatio.cs (SRatio.mk (0:Int) (0:Int))) (n2 2), box (rSRatio.cs t10.1) (n2 0), box (rSRatio.cs t10.2.1) (n2 1)] a w := (hst.pick [7, 8, 9, 10])
  refine hK6 _ _ ?_
  clear hK6 K6
  refine wp_seq_k (fun K8 hK8 => ?_)
  refine wp_seq_k (fun K9 hK9 => ?_)
  refine wp_reg mixed [] hst (fun _ => .p rfl (op_move (.t 0 rfl)) <| .p rfl (op_not (.t 0 rfl)) <| .nil _) (by kernel_rfl) (fun n10 a w hst => ?_)
  replace hst : St M w0 30 [(15, tv (.bool (!t10.2.2))), (2, tv (n2 0)), (3, tv (n2 1)), (4, tv (n2 2))] [box (rSRatio.cs (SRatio.mk (0:Int) (0:Int))) (n2 2), box (rSRatio.cs t10.1) (n2 0), box (rSRatio.cs t10.2.1) (n2 1)] a w := (hst.pick [1, 3, 4, 5])
  refine hK9 _ _ ?_
  clear hK9 K9
  refine wp_test 0 hst rfl (fun b15 => ?_) (fun b15 => ?_)
  · replace h := ite_t b15 h
    refine wp_seq_k (fun K11 hK11 => ?_)
    refine wp_reg mixed [(3, fun _ => box (rSRatio.cs (SRatio.mk (0:Int) (0:Int))) (n2 2))] hst (fun _ => .p (T := rSRatio.ty (SRatio.mk (0:Int) (0:Int))) rfl (op_build Try.underlying39 pl39 zv39 zc39 (.nil _)) <| .e 0 3 [] rfl rfl rfl rfl (op_storeB (R := rSRatio) (a := (SRatio.mk (0:Int) (0:Int))) tok39 (.t 4 rfl) (.t 0 rfl) (Nat.le_of_ble_eq_true rfl)) <| .p rfl (op_assign .k) <| .nil _) (by kernel_rfl) (fun n12 a w hst => ?_)
    replace hst : St M w0 30 [(5, tv (.int .i64 (1:Int))), (4, tv (n2 2))] [box (rSRatio.cs (SRatio.mk (0:Int) (0:Int))) (n2 2)] a w := (hst.pick [1, 5]).keepA [false, false, true]
    refine hK11 _ _ ?_
    clear hK11 K11
    refine wp_ret ?_
    obtain rfl := Option.some.inj h
    exact ret_st undef hst rfl (.cell (R := rSRatio) (u := (SRatio.mk (0:Int) (0:Int))) tok39 (.t 1 rfl) 0 rfl rfl (.tmp (.t 0 rfl) .nil)) (fun g hg => (by cases hg)) rfl
  · replace h := ite_f b15 h
    refine wp_skip ?_
    refine hK8 _ _ ?_
    clear hK8 K8
    refine wp_seq_k (fun K13 hK13 => ?_)
    obtain ⟨t27, ht27, h⟩ := bind_some h
    refine wp_reg mixed [(3, fun _ => box (rSRatio.cs t27.1) (n2 2))] hst (fun _ => .u [1] rfl rfl (op_fieldB fld39_0 (.t 1 rfl)) <| .u [1] rfl rfl (op_loadBf (R := rI) (u := (t10.1).P) tok3 (.t 0 rfl) rfl) <| .u [2] rfl rfl (op_fieldB fld39_0 (.t 4 rfl)) <| .u [2] rfl rfl (op_loadBf (R := rI) (u := (t10.2.1).P) tok3 (.t 0 rfl) rfl) <| .p rfl (op_mul (.t 2 rfl) (.t 0 rfl)) <| .u [1] rfl rfl (op_fieldB fld39_1 (.t 6 rfl)) <| .u [1] rfl rfl (op_loadBf (R := rI) (u := (t10.1).Q) tok3 (.t 0 rfl) rfl) <| .u [2] rfl rfl (op_fieldB fld39_1 (.t 9 rfl)) <| .u [2] rfl rfl (op_loadBf (R := rI) (u := (t10.2.1).Q) tok3 (.t 0 rfl) rfl) <| .p rfl (op_mul (.t 2 rfl) (.t 0 rfl)) <| .p rfl (op_callF call25 (Make_ok ht27) (.cons (.of (.t 5 rfl)) <| .cons (.of (.t 0 rfl)) <| .nil)) <| .p rfl (op_extract (.t 0 rfl) rfl) <| .p rfl (op_extract (.t 1 rfl) rfl) <| .e 0 3 [] rfl rfl rfl rfl (op_storeB (R := rSRatio) (a := t27.1) tok39 (.t 16 rfl) (.t 1 rfl) (Nat.le_of_ble_eq_true rfl)) <| .p rfl (op_assign (.t 0 rfl)) <| .nil _) (by kernel_rfl) (fun n14 a w hst => ?_)
    replace hst : St M w0 30 [(5, tv (.int .i64 t27.2)), (4, tv (n2 2))] [box (rSRatio.cs t27.1) (n2 2)] a w := (hst.pick [13, 17]).keepA [false, false, true]
    refine hK13 _ _ ?_
    clear hK13 K13
    refine wp_ret ?_
    obtain rfl := Option.some.inj h
    exact ret_st undef hst rfl (.cell (R := rSRatio) (u := t27.1) tok39 (.t 1 rfl) 0 rfl rfl (.tmp (.t 0 rfl) .nil)) (fun g hg => (by cases hg)) rfl

/- diorama/ratio.Compare -/
noncomputable def fCompare (a_ : SRatio) (b_ : SRatio) : Option (Int) := (fbothQ a_ b_).bind fun t11 => (if ((!t11.2.2) || ((IntKind.i64.wrap ((t11.1).P * (t11.2.1).Q)) == (IntKind.i64.wrap ((t11.2.1).P * (t11.1).Q)))) = true then (some (0:Int)) else (if (decide ((IntKind.i64.wrap ((t11.1).P * (t11.2.1).Q)) < (IntKind.i64.wrap ((t11.2.1).P * (t11.1).Q)))) = true then (some (-1:Int)) else (some (1:Int))))
set_option maxRecDepth 100000 in
theorem Compare_ok {a_ : SRatio} {b_ : SRatio} {r : Int} (h : fCompare a_ b_ = some r) : FnOk Try.prog 28 [rSRatio.ty a_, rSRatio.ty b_] none (fun _ => tv (.int .i64 r)) := by
  unfold fCompare at h
  refine FnOk.enter Try.func28 rfl Try.ntmps28 (Nat.le_of_ble_eq_true rfl) (fun M w0 a hst => ?_)
  replace hst : St M w0 37 [(0, rSRatio.ty a_), (1, rSRatio.ty b_)] [] a w0 := hst
  refine wp_seq_k (fun K1 hK1 => ?_)
  refine wp_reg mixed [(0, fun v => box (rSRatio.cs a_) v), (1, fun v => box (rSRatio.cs b_) v)] hst (fun _ => .m 0 [] rfl rfl rfl (op_box (R := rSRatio) (u := a_) (.t 0 rfl)) <| .m 1 [] rfl rfl rfl (op_box (R := rSRatio) (u := b_) (.t 2 rfl)) <| .p rfl (op_assign .k) <| .nil _) (by kernel_rfl) (fun n2 a w hst => ?_)
  replace hst : St M w0 37 [(2, tv (n2 0)), (3, tv (n2 1))] [box (rSRatio.cs a_) (n2 0), box (rSRatio.cs b_) (n2 1)] a w := (hst.pick [0, 1])
  refine hK1 _ _ ?_
  clear hK1 K1
  refine wp_seq_k (fun K5 hK5 => ?_)
  obtain ⟨t11, ht11, h⟩ := bind_some h
  refine wp_reg mixed [(2, fun _ => box (rSRatio.cs t11.1) (n2 0)), (3, fun _ => box (rSRatio.cs t11.2.1) (n2 1))] hst (fun _ => .u [0] rfl rfl (op_loadB (R := rSRatio) (u := a_) tok39 (.t 0 rfl) rfl) <| .u [1] rfl rfl (op_loadB (R := rSRatio) (u := b_) tok39 (.t 2 rfl) rfl) <| .p rfl (op_callF call59 (bothQ_ok ht11) (.cons (.of (.t 1 rfl)) <| .cons (.of (.t 0 rfl)) <| .nil)) <| .p rfl (op_move (.t 0 rfl)) <| .p rfl (op_extract (.t 0 rfl) rfl) <| .p rfl (op_extract (.t 1 rfl) rfl) <| .p rfl (op_extract (.t 2 rfl) rfl) <| .e 0 2 [] rfl rfl rfl rfl (op_storeB (R := rSRatio) (a := t11.1) tok39 (.t 7 rfl) (.t 2 rfl) (Nat.le_of_ble_eq_true rfl)) <| .e 1 3 [] rfl rfl rfl rfl (op_storeB (R := rSRatio) (a := t11.2.1) tok39 (.t 8 rfl) (.t 1 rfl) (Nat.le_of_ble_eq_true rfl)) <| .p rfl (op_assign (.t 0 rfl)) <| .nil _) (by kernel_rfl) (fun n6 a w hst => ?_)
  replace hst : St M w0 37 [(5, tv (.bool t11.2.2)), (2, tv (n2 0)), (3, tv (n2 1))] [box (rSRatio.cs t11.1) (n2 0), box (rSRatio.cs t11.2.1) (n2 1)] a w := (hst.pick [7, 8, 9])
  refine hK5 _ _ ?_
  clear hK5 K5
  refine wp_seq_k (fun K7 hK7 => ?_)
  refine wp_reg mixed [] hst (fun _ => .u [0] rfl rfl (op_fieldB fld39_0 (.t 1 rfl)) <| .u [0] rfl rfl (op_loadBf (R := rI) (u := (t11.1).P) tok3 (.t 0 rfl) rfl) <| .u [1] rfl rfl (op_fieldB fld39_1 (.t 4 rfl)) <| .u [1] rfl rfl (op_loadBf (R := rI) (u := (t11.2.1).Q) tok3 (.t 0 rfl) rfl) <| .p rfl (op_mul (.t 2 rfl) (.t 0 rfl)) <| .u [1] rfl rfl (op_fieldB fld39_0 (.t 7 rfl)) <| .u [1] rfl rfl (op_loadBf (R := rI) (u := (t11.2.1).P) tok3 (.t 0 rfl) rfl) <| .u [0] rfl rfl (op_fieldB fld39_1 (.t 8 rfl)) <| .u [0] rfl rfl (op_loadBf (R := rI) (u := (t11.1).Q) tok3 (.t 0 rfl) rfl) <| .p rfl (op_mul (.t 2 rfl) (.t 0 rfl)) <| .p rfl (op_assign (.t 5 rfl)) <| .p rfl (op_assign (.t 1 rfl)) <| .nil _) (by kernel_rfl) (fun n8 a w hst => ?_)
  replace hst : St M w0 37 [(6, tv (.int .i64 (IntKind.i64.wrap ((t11.1).P * (t11.2.1).Q)))), (7, tv (.int .i64 (IntKind.i64.wrap ((t11.2.1).P * (t11.1).Q)))), (5, tv (.bool t11.2.2))] [] a w := (hst.pick [10, 11, 12]).keepA [false, false]
  refine hK7 _ _ ?_
  clear hK7 K7
  refine wp_seq_k (fun K9 hK9 => ?_)
  refine wp_block ?_
  refine wp_seq_k (fun K10 hK10 => ?_)
  refine wp_reg mixed [] hst (fun _ => .p rfl (op_move (.t 2 rfl)) <| .p rfl (op_not (.t 0 rfl)) <| .p rfl (op_move (.t 0 rfl)) <| .g rfl rfl (.b 0 rfl) (fun _ => op_move (.t 3 rfl)) <| .g rfl rfl (.b 1 rfl) (fun _ => op_move (.t 5 rfl)) <| .g rfl rfl (.b 2 rfl) (fun hc => op_eql (.cond (.t 1 rfl) hc) (.cond (.t 0 rfl) hc)) <| .p rfl (op_or (.t 3 rfl) (fun hp => (.cond (.t 0 rfl) (beqF hp)))) <| .p rfl (op_assign (.t 0 rfl)) <| .nil _) (by kernel_rfl) (fun n11 a w hst => ?_)
  replace hst : St M w0 37 [(25, tv (.bool ((!t11.2.2) || ((IntKind.i64.wrap ((t11.1).P * (t11.2.1).Q)) == (IntKind.i64.wrap ((t11.2.1).P * (t11.1).Q)))))), (6, tv (.int .i64 (IntKind.i64.wrap ((t11.1).P * (t11.2.1).Q)))), (7, tv (.int .i64 (IntKind.i64.wrap ((t11.2.1).P * (t11.1).Q))))] [] a w := (hst.pick [7, 8, 9])
  refine hK10 _ _ ?_
  clear hK10 K10
  refine wp_test 0 hst rfl (fun b21 => ?_) (fun b21 => ?_)
  · replace h := ite_t b21 h
    refine wp_seq_k (fun K12 hK12 => ?_)
    refine wp_reg mixed [] hst (fun _ => .p rfl (op_assign .k) <| .nil _) (by kernel_rfl) (fun n13 a w hst => ?_)
    replace hst : St M w0 37 [(4, tv (.int .i64 (0:Int)))] [] a w := (hst.pick [0])
    refine hK12 _ _ ?_
    clear hK12 K12
    refine wp_ret ?_
    obtain rfl := Option.some.inj h
    exact ret_st undef hst rfl (.tmp (.t 0 rfl) .nil) (fun g hg => (by cases hg)) rfl
  · replace h := ite_f b21 h
    refine wp_seq_k (fun K14 hK14 => ?_)
    refine wp_reg mixed [] hst (fun _ => .p rfl (op_move (.t 1 rfl)) <| .p rfl (op_move (.t 3 rfl)) <| .p rfl (op_lss (.t 1 rfl) (.t 0 rfl)) <| .p rfl (op_assign (.t 0 rfl)) <| .nil _) (by kernel_rfl) (fun n15 a w hst => ?_)
    replace hst : St M w0 37 [(33, tv (.bool (decide ((IntKind.i64.wrap ((t11.1).P * (t11.2.1).Q)) < (IntKind.i64.wrap ((t11.2.1).P * (t11.1).Q))))))] [] a w := (hst.pick [3])
    refine hK14 _ _ ?_
    clear hK14 K14
    refine wp_test 0 hst rfl (fun b20 => ?_) (fun b20 => ?_)
    · replace h := ite_t b20 h
      refine wp_seq_k (fun K16 hK16 => ?_)
      refine wp_reg mixed [] hst (fun _ => .p rfl (op_assign .k) <| .nil _) (by kernel_rfl) (fun n17 a w hst => ?_)
      replace hst : St M w0 37 [(4, tv (.int .i64 (-1:Int)))] [] a w := (hst.pick [0])
      refine hK16 _ _ ?_
      clear hK16 K16
      refine wp_ret ?_
      obtain rfl := Option.some.inj h
      exact ret_st undef hst rfl (.tmp (.t 0 rfl) .nil) (fun g hg => (by cases hg)) rfl
    · replace h := ite_f b20 h
      refine wp_skip ?_
      refine hK9 _ _ ?_
      clear hK9 K9
      refine wp_seq_k (fun K18 hK18 => ?_)
      refine wp_reg mixed [] hst (fun _ => .p rfl (op_assign .k) <| .nil _) (by kernel_rfl) (fun n19 a w hst => ?_)
      replace hst : St M w0 37 [(4, tv (.int .i64 (1:Int)))] [] a w := (hst.pick [0])
      refine hK18 _ _ ?_
      clear hK18 K18
      refine wp_ret ?_
      obtain rfl := Option.some.inj h
      exact ret_st undef hst rfl (.tmp (.t 0 rfl) .nil) (fun g hg => (by cases hg)) rfl

/- diorama/dioramalaw27.lives -/
noncomputable def flives27  : Option (Bool) := (fWeights [(4:Int), (0:Int), (6:Int)] (0:Int)).bind fun t13 => (fWeights [(4:Int), (0:Int), (6:Int)] (1:Int)).bind fun t18 => (fBlend [(1:Int), (0:Int)] [(1:Int), (3:Int)] (SRatio.mk (1:Int) (2:Int))).bind fun t25 => (fFar [(1:Int), (0:Int)] [(1:Int), (3:Int)]).bind fun t31 => (fFar [(1:Int), (0:Int)] [(5:Int), (3:Int)]).bind fun t37 => (opt ((((((t13.2 == (0:Int)) && (t18.2 == (0:Int))) && (t25.2 == (0:Int))) && (t31.2 == (0:Int))) && (t37.2 == (0:Int))) == true) (fSameInts t13.1 [(2:Int), (0:Int), (3:Int)]) default).bind fun t61 => (opt (((((((t13.2 == (0:Int)) && (t18.2 == (0:Int))) && (t25.2 == (0:Int))) && (t31.2 == (0:Int))) && (t37.2 == (0:Int))) && t61) == true) (fSameInts t18.1 [(5:Int), (1:Int), (7:Int)]) default).bind fun t66 => (opt ((((((((t13.2 == (0:Int)) && (t18.2 == (0:Int))) && (t25.2 == (0:Int))) && (t31.2 == (0:Int))) && (t37.2 == (0:Int))) && t61) && t66) == true) (fSameInts t25.1 [(5:Int), (3:Int)]) default).bind fun t71 => (some ((((((((((t13.2 == (0:Int)) && (t18.2 == (0:Int))) && (t25.2 == (0:Int))) && (t31.2 == (0:Int))) && (t37.2 == (0:Int))) && t61) && t66) && t71) && (eqlR t31.1 (SRatio.mk (3:Int) (4:Int)))) && (eqlR t37.1 (SRatio.mk (3:Int) (8:Int)))))
set_option maxRecDepth 100000 in
theorem lives27_ok {r : Bool} (h : flives27  = some r) : FnOk Try.prog 20 [] none (fun _ => tv (.bool r)) := by
  unfold flives27 at h
  refine FnOk.enter Try.func20 rfl Try.ntmps20 (Nat.le_of_ble_eq_true rfl) (fun M w0 a hst => ?_)
  replace hst : St M w0 83 [] [] a w0 := hst
  refine wp_seq_k (fun K1 hK1 => ?_)
  refine wp_reg mixed [] hst (fun _ => .p rfl (op_assign .k) <| .nil _) (by kernel_rfl) (fun n2 a w hst => ?_)
  replace hst : St M w0 83 [] [] a w := (hst.pick [])
  refine hK1 _ _ ?_
  clear hK1 K1
  refine wp_seq_k (fun K3 hK3 => ?_)
  obtain ⟨t13, ht13, h⟩ := bind_some h
  refine wp_reg mixed [] hst (fun _ => .p rfl (op_buildSl (R := rI) (us := [(4:Int), (0:Int), (6:Int)]) Try.underlying22 tok3 (.cons .k <| .cons .k <| .cons .k <| .nil _) rfl (Nat.le_of_ble_eq_true rfl)) <| .p rfl (op_callF call16 ((Weights_ok ht13).ro ro_tup0) (.cons (.of (.t 0 rfl)) <| .cons (.of .k) <| .nil)) <| .p rfl (op_move (.t 0 rfl)) <| .p rfl (op_extract (.t 0 rfl) rfl) <| .p rfl (op_extract (.t 1 rfl) rfl) <| .p rfl (op_assign (.t 1 rfl)) <| .p rfl (op_assign (.t 1 rfl)) <| .nil _) (by kernel_rfl) (fun n4 a w hst => ?_)
  replace hst : St M w0 83 [(1, tsl rI t13.1), (2, tv (.int .i64 t13.2))] [] a w := (hst.pick [5, 6])
  refine hK3 _ _ ?_
  clear hK3 K3
  refine wp_seq_k (fun K5 hK5 => ?_)
  obtain ⟨t18, ht18, h⟩ := bind_some h
  refine wp_reg mixed [] hst (fun _ => .p rfl (op_buildSl (R := rI) (us := [(4:Int), (0:Int), (6:Int)]) Try.underlying22 tok3 (.cons .k <| .cons .k <| .cons .k <| .nil _) rfl (Nat.le_of_ble_eq_true rfl)) <| .p rfl (op_callF call16 ((Weights_ok ht18).ro ro_tup0) (.cons (.of (.t 0 rfl)) <| .cons (.of .k) <| .nil)) <| .p rfl (op_move (.t 0 rfl)) <| .p rfl (op_extract (.t 0 rfl) rfl) <| .p rfl (op_extract (.t 1 rfl) rfl) <| .p rfl (op_assign (.t 1 rfl)) <| .p rfl (op_assign (.t 1 rfl)) <| .nil _) (by kernel_rfl) (fun n6 a w hst => ?_)
  replace hst : St M w0 83 [(3, tsl rI t18.1), (4, tv (.int .i64 t18.2)), (1, tsl rI t13.1), (2, tv (.int .i64 t13.2))] [] a w := (hst.pick [5, 6, 7, 8])
  refine hK5 _ _ ?_
  clear hK5 K5
  refine wp_seq_k (fun K7 hK7 => ?_)
  obtain ⟨t25, ht25, h⟩ := bind_some h
  refine wp_reg mixed [] hst (fun _ => .p rfl (op_buildSl (R := rI) (us := [(1:Int), (0:Int)]) Try.underlying22 tok3 (.cons .k <| .cons .k <| .nil _) rfl (Nat.le_of_ble_eq_true rfl)) <| .p rfl (op_buildSl (R := rI) (us := [(1:Int), (3:Int)]) Try.underlying22 tok3 (.cons .k <| .cons .k <| .nil _) rfl (Nat.le_of_ble_eq_true rfl)) <| .p (T := rSRatio.ty (SRatio.mk (1:Int) (2:Int))) rfl (op_build Try.underlying39 pl39 zv39 zc39 (.cons (R := rI) (u := (1:Int)) rfl .k (Nat.le_of_ble_eq_true rfl) <| .cons (R := rI) (u := (2:Int)) rfl .k (Nat.le_of_ble_eq_true rfl) <| .nil _)) <| .p rfl (op_callF call22 ((Blend_ok ht25).ro ro_tup0) (.cons (.of (.t 2 rfl)) <| .cons (.of (.t 1 rfl)) <| .cons (.of (.t 0 rfl)) <| .nil)) <| .p rfl (op_move (.t 0 rfl)) <| .p rfl (op_extract (.t 0 rfl) rfl) <| .p rfl (op_extract (.t 1 rfl) rfl) <| .p rfl (op_assign (.t 1 rfl)) <| .p rfl (op_assign (.t 1 rfl)) <| .nil _) (by kernel_rfl) (fun n8 a w hst => ?_)
  replace hst : St M w0 83 [(5, tsl rI t25.1), (6, tv (.int .i64 t25.2)), (3, tsl rI t18.1), (4, tv (.int .i64 t18.2)), (1, tsl rI t13.1), (2, tv (.int .i64 t13.2))] [] a w := (hst.pick [7, 8, 9, 10, 11, 12])
  refine hK7 _ _ ?_
  clear hK7 K7
  refine wp_seq_k (fun K9 hK9 => ?_)
  obtain ⟨t31, ht31, h⟩ := bind_some h
  refine wp_reg mixed [(0, fun v => box (rSRatio.cs (SRatio.mk (0:Int) (0:Int))) v), (0, fun v => box (rSRatio.cs t31.1) v)] hst (fun _ => .p rfl (op_buildSl (R := rI) (us := [(1:Int), (0:Int)]) Try.underlying22 tok3 (.cons .k <| .cons .k <| .nil _) rfl (Nat.le_of_ble_eq_true rfl)) <| .p rfl (op_buildSl (R := rI) (us := [(1:Int), (3:Int)]) Try.underlying22 tok3 (.cons .k <| .cons .k <| .nil _) rfl (Nat.le_of_ble_eq_true rfl)) <| .p rfl (op_callF call26 (Far_ok ht31) (.cons (.of (.t 1 rfl)) <| .cons (.of (.t 0 rfl)) <| .nil)) <| .p rfl (op_move (.t 0 rfl)) <| .p rfl (op_extract (.t 0 rfl) rfl) <| .p rfl (op_extract (.t 1 rfl) rfl) <| .m 0 [] rfl rfl rfl (op_alloc (R := rSRatio) (a := (SRatio.mk (0:Int) (0:Int))) tok39 zok39) <| .e 0 1 [] rfl rfl rfl rfl (op_storeB (R := rSRatio) (a := t31.1) tok39 (.t 0 rfl) (.t 2 rfl) (Nat.le_of_ble_eq_true rfl)) <| .p rfl (op_assign (.t 1 rfl)) <| .nil _) (by kernel_rfl) (fun n10 a w hst => ?_)
  replace hst : St M w0 83 [(7, tv (n10 0)), (8, tv (.int .i64 t31.2)), (5, tsl rI t25.1), (6, tv (.int .i64 t25.2)), (3, tsl rI t18.1), (4, tv (.int .i64 t18.2)), (1, tsl rI t13.1), (2, tv (.int .i64 t13.2))] [box (rSRatio.cs t31.1) (n10 0)] a w := (hst.pick [6, 7, 8, 9, 10, 11, 12, 13])
  refine hK9 _ _ ?_
  clear hK9 K9
  refine wp_seq_k (fun K12 hK12 => ?_)
  obtain ⟨t37, ht37, h⟩ := bind_some h
  refine wp_reg mixed [(1, fun v => box (rSRatio.cs (SRatio.mk (0:Int) (0:Int))) v), (1, fun v => box (rSRatio.cs t37.1) v)] hst (fun _ => .p rfl (op_buildSl (R := rI) (us := [(1:Int), (0:Int)]) Try.underlying22 tok3 (.cons .k <| .cons .k <| .nil _) rfl (Nat.le_of_ble_eq_true rfl)) <| .p rfl (op_buildSl (R := rI) (us := [(5:Int), (3:Int)]) Try.underlying22 tok3 (.cons .k <| .cons .k <| .nil _) rfl (Nat.le_of_ble_eq_true rfl)) <| .p rfl (op_callF call26 (Far_ok ht37) (.cons (.of (.t 1 rfl)) <| .cons (.of (.t 0 rfl)) <| .nil)) <| .p rfl (op_move (.t 0 rfl)) <| .p rfl (op_extract (.t 0 rfl) rfl) <| .p rfl (op_extract (.t 1 rfl) rfl) <| .m 1 [] rfl rfl rfl (op_alloc (R := rSRatio) (a := (SRatio.mk (0:Int) (0:Int))) tok39 zok39) <| .e 1 2 [] rfl rfl rfl rfl (op_storeB (R := rSRatio) (a := t37.1) tok39 (.t 0 rfl) (.t 2 rfl) (Nat.le_of_ble_eq_true rfl)) <| .p rfl (op_assign (.t 1 rfl)) <| .nil _) (by kernel_rfl) (fun n13 a w hst => ?_)
  replace hst : St M w0 83 [(9, tv (n13 1)), (10, tv (.int .i64 t37.2)), (7, tv (n10 0)), (8, tv (.int .i64 t31.2)), (5, tsl rI t25.1), (6, tv (.int .i64 t25.2)), (3, tsl rI t18.1), (4, tv (.int .i64 t18.2)), (1, tsl rI t13.1), (2, tv (.int .i64 t13.2))] [box (rSRatio.cs t31.1) (n10 0), box (rSRatio.cs t37.1) (n13 1)] a w := (hst.pick [6, 7, 8, 9, 10, 11, 12, 13, 14, 15])
  refine hK12 _ _ ?_
  clear hK12 K12
  refine wp_seq_k (fun K15 hK15 => ?_)
  obtain ⟨t61, ht61, h⟩ := bind_some h
  obtain ⟨t66, ht66, h⟩ := bind_some h
  obtain ⟨t71, ht71, h⟩ := bind_some h
  refine wp_reg mixed [] hst (fun _ => .p rfl (op_move (.t 9 rfl)) <| .p rfl (op_eql (.t 0 rfl) .k) <| .p rfl (op_move (.t 0 rfl)) <| .g rfl rfl (.b 0 rfl) (fun _ => op_move (.t 10 rfl)) <| .g rfl rfl (.b 1 rfl) (fun hc => op_eql (.cond (.t 0 rfl) hc) .k) <| .p rfl (op_and (.t 2 rfl) (fun hp => (.cond (.t 0 rfl) (beqT hp)))) <| .p rfl (op_move (.t 0 rfl)) <| .g rfl rfl (.b 0 rfl) (fun _ => op_move (.t 12 rfl)) <| .g rfl rfl (.b 1 rfl) (fun hc => op_eql (.cond (.t 0 rfl) hc) .k) <| .p rfl (op_and (.t 2 rfl) (fun hp => (.cond (.t 0 rfl) (beqT hp)))) <| .p rfl (op_move (.t 0 rfl)) <| .g rfl rfl (.b 0 rfl) (fun _ => op_move (.t 14 rfl)) <| .g rfl rfl (.b 1 rfl) (fun hc => op_eql (.cond (.t 0 rfl) hc) .k) <| .p rfl (op_and (.t 2 rfl) (fun hp => (.cond (.t 0 rfl) (beqT hp)))) <| .p rfl (op_move (.t 0 rfl)) <| .g rfl rfl (.b 0 rfl) (fun _ => op_move (.t 16 rfl)) <| .g rfl rfl (.b 1 rfl) (fun hc => op_eql (.cond (.t 0 rfl) hc) .k) <| .p rfl (op_and (.t 2 rfl) (fun hp => (.cond (.t 0 rfl) (beqT hp)))) <| .p rfl (op_move (.t 0 rfl)) <| .g rfl rfl (.b 0 rfl) (fun _ => op_move (.t 27 rfl)) <| .g rfl rfl (.b 1 rfl) (fun _ => op_buildSl (R := rI) (us := [(2:Int), (0:Int), (3:Int)]) Try.underlying22 tok3 (.cons .k <| .cons .k <| .cons .k <| .nil _) rfl (Nat.le_of_ble_eq_true rfl)) <| .g rfl rfl (.b 2 rfl) (fun hc => op_callF call18 (SameInts_ok (opt_t ht61 hc)) (.cons (.of (.cond (.t 1 rfl) hc)) <| .cons (.of (.cond (.t 0 rfl) hc)) <| .nil)) <| .p rfl (op_and (.t 3 rfl) (fun hp => (.cond (.t 0 rfl) (beqT hp)))) <| .p rfl (op_move (.t 0 rfl)) <| .g rfl rfl (.b 0 rfl) (fun _ => op_move (.t 30 rfl)) <| .g rfl rfl (.b 1 rfl) (fun _ => op_buildSl (R := rI) (us := [(5:Int), (1:Int), (7:Int)]) Try.underlying22 tok3 (.cons .k <| .cons .k <| .cons .k <| .nil _) rfl (Nat.le_of_ble_eq_true rfl)) <| .g rfl rfl (.b 2 rfl) (fun hc => op_callF call18 (SameInts_ok (opt_t ht66 hc)) (.cons (.of (.cond (.t 1 rfl) hc)) <| .cons (.of (.cond (.t 0 rfl) hc)) <| .nil)) <| .p rfl (op_and (.t 3 rfl) (fun hp => (.cond (.t 0 rfl) (beqT hp)))) <| .p rfl (op_move (.t 0 rfl)) <| .g rfl rfl (.b 0 rfl) (fun _ => op_move (.t 33 rfl)) <| .g rfl rfl (.b 1 rfl) (fun _ => op_buildSl (R := rI) (us := [(5:Int), (3:Int)]) Try.underlying22 tok3 (.cons .k <| .cons .k <| .nil _) rfl (Nat.le_of_ble_eq_true rfl)) <| .g rfl rfl (.b 2 rfl) (fun hc => op_callF call18 (SameInts_ok (opt_t ht71 hc)) (.cons (.of (.cond (.t 1 rfl) hc)) <| .cons (.of (.cond (.t 0 rfl) hc)) <| .nil)) <| .p rfl (op_and (.t 3 rfl) (fun hp => (.cond (.t 0 rfl) (beqT hp)))) <| .p rfl (op_move (.t 0 rfl)) <| .gu [0] rfl rfl rfl (.b 0 rfl) (fun hc => op_loadB (R := rSRatio) (u := t31.1) tok39 (.t 36 rfl) rfl) <| .g (T := rSRatio.ty (SRatio.mk (3:Int) (4:Int))) rfl rfl (.b 1 rfl) (fun _ => op_build Try.underlying39 pl39 zv39 zc39 (.cons (R := rI) (u := (3:Int)) rfl .k (Nat.le_of_ble_eq_true rfl) <| .cons (R := rI) (u := (4:Int)) rfl .k (Nat.le_of_ble_eq_true rfl) <| .nil _)) <| .g rfl rfl (.b 2 rfl) (fun hc => op_eqlR (.cond (.t 1 rfl) hc) (.cond (.t 0 rfl) hc)) <| .p rfl (op_and (.t 3 rfl) (fun hp => (.cond (.t 0 rfl) (beqT hp)))) <| .p rfl (op_move (.t 0 rfl)) <| .gu [1] rfl rfl rfl (.b 0 rfl) (fun hc => op_loadB (R := rSRatio) (u := t37.1) tok39 (.t 39 rfl) rfl) <| .g (T := rSRatio.ty (SRatio.mk (3:Int) (8:Int))) rfl rfl (.b 1 rfl) (fun _ => op_build Try.underlying39 pl39 zv39 zc39 (.cons (R := rI) (u := (3:Int)) rfl .k (Nat.le_of_ble_eq_true rfl) <| .cons (R := rI) (u := (8:Int)) rfl .k (Nat.le_of_ble_eq_true rfl) <| .nil _)) <| .g rfl rfl (.b 2 rfl) (fun hc => op_eqlR (.cond (.t 1 rfl) hc) (.cond (.t 0 rfl) hc)) <| .p rfl (op_and (.t 3 rfl) (fun hp => (.cond (.t 0 rfl) (beqT hp)))) <| .p rfl (op_assign (.t 0 rfl)) <| .nil _) (by kernel_rfl) (fun n16 a w hst => ?_)
  replace hst : St M w0 83 [(0, tv (.bool ((((((((((t13.2 == (0:Int)) && (t18.2 == (0:Int))) && (t25.2 == (0:Int))) && (t31.2 == (0:Int))) && (t37.2 == (0:Int))) && t61) && t66) && t71) && (eqlR t31.1 (SRatio.mk (3:Int) (4:Int)))) && (eqlR t37.1 (SRatio.mk (3:Int) (8:Int))))))] [] a w := (hst.pick [43]).keepA [false, false]
  refine hK15 _ _ ?_
  clear hK15 K15
  refine wp_ret ?_
  obtain rfl := Option.some.inj h
  exact ret_st undef hst rfl (.tmp (.t 0 rfl) .nil) (fun g hg => (by cases hg)) rfl

/- diorama/dioramalaw27.shares -/
noncomputable def fshares (p_ : Int) (q_ : Int) : Option ((List SRatio)) := (fAround q_ (20:Int)).bind fun t9 => (fAround p_ (IntKind.i64.wrap ((IntKind.i64.wrap ((1:Int) + t9)) + (1:Int)))).bind fun t15 => (fMake t15 (IntKind.i64.wrap ((1:Int) + t9))).bind fun t17 => (some [t17.1, (SRatio.mk (0:Int) (0:Int)), (SRatio.mk (1:Int) (1:Int)), (SRatio.mk (3:Int) (2:Int)), (SRatio.mk (-1:Int) (2:Int)), (SRatio.mk (2:Int) (4:Int)), (SRatio.mk (1:Int) (1024:Int)), (SRatio.mk (1:Int) (1025:Int))])
set_option maxRecDepth 100000 in
theorem shares_ok {p_ : Int} {q_ : Int} {r : (List SRatio)} (h : fshares p_ q_ = some r) : FnOk Try.prog 21 [tv (.int .i64 p_), tv (.int .i64 q_)] (some fun v => own rSRatio 39 r v) (fun v => tv v) := by
  unfold fshares at h
  refine FnOk.enter Try.func21 rfl Try.ntmps21 (Nat.le_of_ble_eq_true rfl) (fun M w0 a hst => ?_)
  replace hst : St M w0 29 [(0, tv (.int .i64 p_)), (1, tv (.int .i64 q_))] [] a w0 := hst
  refine wp_seq_k (fun K1 hK1 => ?_)
  refine wp_reg mixed [] hst (fun _ => .p rfl (op_assign .k) <| .nil _) (by kernel_rfl) (fun n2 a w hst => ?_)
  replace hst : St M w0 29 [(0, tv (.int .i64 p_)), (1, tv (.int .i64 q_))] [] a w := (hst.pick [1, 2])
  refine hK1 _ _ ?_
  clear hK1 K1
  refine wp_seq_k (fun K3 hK3 => ?_)
  obtain ⟨t9, ht9, h⟩ := bind_some h
  refine wp_reg mixed [] hst (fun _ => .p rfl (op_move (.t 1 rfl)) <| .p rfl (op_callF call13 (Around_ok ht9) (.cons (.of (.t 0 rfl)) <| .cons (.of .k) <| .nil)) <| .p rfl (op_add .k (.t 0 rfl)) <| .p rfl (op_assign (.t 0 rfl)) <| .nil _) (by kernel_rfl) (fun n4 a w hst => ?_)
  replace hst : St M w0 29 [(5, tv (.int .i64 (IntKind.i64.wrap ((1:Int) + t9)))), (0, tv (.int .i64 p_))] [] a w := (hst.pick [3, 4])
  refine hK3 _ _ ?_
  clear hK3 K3
  refine wp_seq_k (fun K5 hK5 => ?_)
  obtain ⟨t15, ht15, h⟩ := bind_some h
  obtain ⟨t17, ht17, h⟩ := bind_some h
  refine wp_reg mixed [(0, fun v => box (rSRatio.cs (SRatio.mk (0:Int) (0:Int))) v), (0, fun v => box (rSRatio.cs t17.1) v)] hst (fun _ => .p rfl (op_move (.t 1 rfl)) <| .p rfl (op_move (.t 1 rfl)) <| .p rfl (op_add (.t 0 rfl) .k) <| .p rfl (op_callF call13 (Around_ok ht15) (.cons (.of (.t 2 rfl)) <| .cons (.of (.t 0 rfl)) <| .nil)) <| .p rfl (op_move (.t 4 rfl)) <| .p rfl (op_callF call25 (Make_ok ht17) (.cons (.of (.t 1 rfl)) <| .cons (.of (.t 0 rfl)) <| .nil)) <| .p rfl (op_move (.t 0 rfl)) <| .p rfl (op_extract (.t 0 rfl) rfl) <| .p rfl (op_extract (.t 1 rfl) rfl) <| .m 0 [] rfl rfl rfl (op_alloc (R := rSRatio) (a := (SRatio.mk (0:Int) (0:Int))) tok39 zok39) <| .e 0 1 [] rfl rfl rfl rfl (op_storeB (R := rSRatio) (a := t17.1) tok39 (.t 0 rfl) (.t 2 rfl) (Nat.le_of_ble_eq_true rfl)) <| .p rfl (op_assign (.t 1 rfl)) <| .nil _) (by kernel_rfl) (fun n6 a w hst => ?_)
  replace hst : St M w0 29 [(6, tv (n6 0))] [box (rSRatio.cs t17.1) (n6 0)] a w := (hst.pick [9])
  refine hK5 _ _ ?_
  clear hK5 K5
  refine wp_seq_k (fun K8 hK8 => ?_)
  refine wp_reg mixed [(1, fun v => own rSRatio 39 [t17.1, (SRatio.mk (0:Int) (0:Int)), (SRatio.mk (1:Int) (1:Int)), (SRatio.mk (3:Int) (2:Int)), (SRatio.mk (-1:Int) (2:Int)), (SRatio.mk (2:Int) (4:Int)), (SRatio.mk (1:Int) (1024:Int)), (SRatio.mk (1:Int) (1025:Int))] v)] hst (fun _ => .u [0] rfl rfl (op_loadB (R := rSRatio) (u := t17.1) tok39 (.t 0 rfl) rfl) <| .p (T := rSRatio.ty (SRatio.mk (0:Int) (0:Int))) rfl (op_build Try.underlying39 pl39 zv39 zc39 (.nil _)) <| .p (T := rSRatio.ty (SRatio.mk (1:Int) (1:Int))) rfl (op_build Try.underlying39 pl39 zv39 zc39 (.cons (R := rI) (u := (1:Int)) rfl .k (Nat.le_of_ble_eq_true rfl) <| .cons (R := rI) (u := (1:Int)) rfl .k (Nat.le_of_ble_eq_true rfl) <| .nil _)) <| .p (T := rSRatio.ty (SRatio.mk (3:Int) (2:Int))) rfl (op_build Try.underlying39 pl39 zv39 zc39 (.cons (R := rI) (u := (3:Int)) rfl .k (Nat.le_of_ble_eq_true rfl) <| .cons (R := rI) (u := (2:Int)) rfl .k (Nat.le_of_ble_eq_true rfl) <| .nil _)) <| .p (T := rSRatio.ty (SRatio.mk (-1:Int) (2:Int))) rfl (op_build Try.underlying39 pl39 zv39 zc39 (.cons (R := rI) (u := (-1:Int)) rfl .k (Nat.le_of_ble_eq_true rfl) <| .cons (R := rI) (u := (2:Int)) rfl .k (Nat.le_of_ble_eq_true rfl) <| .nil _)) <| .p (T := rSRatio.ty (SRatio.mk (2:Int) (4:Int))) rfl (op_build Try.underlying39 pl39 zv39 zc39 (.cons (R := rI) (u := (2:Int)) rfl .k (Nat.le_of_ble_eq_true rfl) <| .cons (R := rI) (u := (4:Int)) rfl .k (Nat.le_of_ble_eq_true rfl) <| .nil _)) <| .p (T := rSRatio.ty (SRatio.mk (1:Int) (1024:Int))) rfl (op_build Try.underlying39 pl39 zv39 zc39 (.cons (R := rI) (u := (1:Int)) rfl .k (Nat.le_of_ble_eq_true rfl) <| .cons (R := rI) (u := (1024:Int)) rfl .k (Nat.le_of_ble_eq_true rfl) <| .nil _)) <| .p (T := rSRatio.ty (SRatio.mk (1:Int) (1025:Int))) rfl (op_build Try.underlying39 pl39 zv39 zc39 (.cons (R := rI) (u := (1:Int)) rfl .k (Nat.le_of_ble_eq_true rfl) <| .cons (R := rI) (u := (1025:Int)) rfl .k (Nat.le_of_ble_eq_true rfl) <| .nil _)) <| .m 1 [] rfl rfl rfl (op_buildSlO (R := rSRatio) (us := [t17.1, (SRatio.mk (0:Int) (0:Int)), (SRatio.mk (1:Int) (1:Int)), (SRatio.mk (3:Int) (2:Int)), (SRatio.mk (-1:Int) (2:Int)), (SRatio.mk (2:Int) (4:Int)), (SRatio.mk (1:Int) (1024:Int)), (SRatio.mk (1:Int) (1025:Int))]) Try.underlying35 tok39 (.cons (.t 7 rfl) <| .cons (.t 6 rfl) <| .cons (.t 5 rfl) <| .cons (.t 4 rfl) <| .cons (.t 3 rfl) <| .cons (.t 2 rfl) <| .cons (.t 1 rfl) <| .cons (.t 0 rfl) <| .nil _) rfl (Nat.le_of_ble_eq_true rfl) (Nat.le_of_ble_eq_true rfl)) <| .pd (f := fun v => tv v) 1 rfl (op_assign (.t 0 rfl)) <| .nil _) (by kernel_rfl) (fun n9 a w hst => ?_)
  replace hst : St M w0 29 [(28, tv (n9 1)), (4, tv (n9 1))] [own rSRatio 39 [t17.1, (SRatio.mk (0:Int) (0:Int)), (SRatio.mk (1:Int) (1:Int)), (SRatio.mk (3:Int) (2:Int)), (SRatio.mk (-1:Int) (2:Int)), (SRatio.mk (2:Int) (4:Int)), (SRatio.mk (1:Int) (1024:Int)), (SRatio.mk (1:Int) (1025:Int))] (n9 1)] a w := (hst.pick [8, 9]).keepA [false, true]
  refine hK8 _ _ ?_
  clear hK8 K8
  refine wp_ret ?_
  obtain rfl := Option.some.inj h
  exact ret_st (n9 1) hst rfl (.tmp (.t 1 rfl) .nil) (fun g hg => (by cases hg; exact ⟨0, rfl⟩)) rfl

/- diorama/dioramaref27.Blend -/
noncomputable def fBlendR (a_ : (List Int)) (b_ : (List Int)) (share_ : SRatio) : Option ((List Int) × Int) := (if ((a_.length : Int) != (b_.length : Int)) = true then (some (([] : List Int), (1:Int))) else (fRightR a_).bind fun t20 => (opt ((!t20) == false) (fRightR b_) default).bind fun t24 => (opt (((!t20) || (!t24)) == false) (fValidR share_) default).bind fun t29 => (if ((((((!t20) || (!t24)) || (!t29)) || (decide ((share_).P < (0:Int)))) || (decide ((share_).P > (imax (share_).Q (1:Int))))) || (decide ((imax (share_).Q (1:Int)) > (1024:Int)))) = true then (some (([] : List Int), (5:Int))) else (tailrec (fun (s23 : Int × List Int) => ((if (decide (s23.1 < (a_.length : Int))) = true then (idx a_ s23.1).bind fun t60 => (fSumR b_).bind fun t64 => (idx b_ s23.1).bind fun t70 => (fSumR a_).bind fun t74 => (rm (s23.2.length + [(IntKind.i64.wrap ((IntKind.i64.wrap ((IntKind.i64.wrap ((IntKind.i64.wrap ((imax (share_).Q (1:Int)) - (share_).P)) * t60)) * t64)) + (IntKind.i64.wrap ((IntKind.i64.wrap ((share_).P * t70)) * t74))))].length)).bind fun _ => (some (.inl ((IntKind.i64.wrap (s23.1 + (1:Int))), (s23.2 ++ [(IntKind.i64.wrap ((IntKind.i64.wrap ((IntKind.i64.wrap ((IntKind.i64.wrap ((imax (share_).Q (1:Int)) - (share_).P)) * t60)) * t64)) + (IntKind.i64.wrap ((IntKind.i64.wrap ((share_).P * t70)) * t74))))])))) else (some (.inr s23.2))) : Option ((Int × List Int) ⊕ ((List Int))))) ((0:Int), ([] : List Int))).bind fun (p33 : (List Int)) => (fLowestR p33).bind fun t80 => (fWithinR t80 (1048576:Int)).bind fun t82 => (if (!t82) = true then (some (([] : List Int), (5:Int))) else (some (t80, (0:Int))))))
set_option maxRecDepth 100000 in
theorem BlendR_ok {a_ : (List Int)} {b_ : (List Int)} {share_ : SRatio} {r : (List Int) × Int} (h : fBlendR a_ b_ share_ = some r) : FnOk Try.prog 23 [tsl rI a_, tsl rI b_, rSRatio.ty share_] (some fun v => own rI 3 r.1 v) (fun v => ttup [tv v, tv (.int .i64 r.2)]) := by
  unfold fBlendR at h
  refine FnOk.enter Try.func23 rfl Try.ntmps23 (Nat.le_of_ble_eq_true rfl) (fun M w0 a hst => ?_)
  replace hst : St M w0 85 [(0, tsl rI a_), (1, tsl rI b_), (2, rSRatio.ty share_)] [] a w0 := hst
  refine wp_seq_k (fun K1 hK1 => ?_)
  refine wp_reg mixed [] hst (fun _ => .p rfl (op_boxR (R := rSRatio) (u := share_) (.t 2 rfl)) <| .p rfl (op_assign .k) <| .p rfl (op_assign .k) <| .nil _) (by kernel_rfl) (fun n2 a w hst => ?_)
  replace hst : St M w0 85 [(5, tptr (rSRatio.cs share_)), (0, tsl rI a_), (1, tsl rI b_)] [] a w := (hst.pick [0, 3, 4])
  refine hK1 _ _ ?_
  clear hK1 K1
  refine wp_seq_k (fun K3 hK3 => ?_)
  refine wp_seq_k (fun K4 hK4 => ?_)
  refine wp_reg mixed [] hst (fun _ => .p rfl (op_move (.t 1 rfl)) <| .p rfl (op_len Try.underlying22 (.t 0 rfl)) <| .p rfl (op_move (.t 4 rfl)) <| .p rfl (op_len Try.underlying22 (.t 0 rfl)) <| .p rfl (op_neq (.t 2 rfl) (.t 0 rfl)) <| .nil _) (by kernel_rfl) (fun n5 a w hst => ?_)
  replace hst : St M w0 85 [(15, tv (.bool ((a_.length : Int) != (b_.length : Int)))), (5, tptr (rSRatio.cs share_)), (0, tsl rI a_), (1, tsl rI b_)] [] a w := (hst.pick [4, 5, 6, 7])
  refine hK4 _ _ ?_
  clear hK4 K4
  refine wp_test 0 hst rfl (fun b56 => ?_) (fun b56 => ?_)
  · replace h := ite_t b56 h
    refine wp_seq_k (fun K6 hK6 => ?_)
    refine wp_reg mixed [] hst (fun _ => .p rfl (op_assign .k) <| .p rfl (op_assign .k) <| .nil _) (by kernel_rfl) (fun n7 a w hst => ?_)
    replace hst : St M w0 85 [(6, tv (.slice none 0 0)), (7, tv (.int .i64 (1:Int)))] [] a w := (hst.pick [0, 1])
    replace hst := hst.nil rI 3
    refine hK6 _ _ ?_
    clear hK6 K6
    refine wp_ret ?_
    obtain rfl := Option.some.inj h
    exact ret_st (.slice none 0 0) hst rfl (.tmp (.t 0 rfl) (.tmp (.t 1 rfl) .nil)) (fun g hg => (by cases hg; exact ⟨0, rfl⟩)) rfl
  · replace h := ite_f b56 h
    refine wp_skip ?_
    refine hK3 _ _ ?_
    clear hK3 K3
    refine wp_seq_k (fun K9 hK9 => ?_)
    refine wp_reg mixed [] hst (fun _ => .p rfl (op_field fld39_1 (.t 1 rfl)) <| .p rfl (op_loadT (u := (share_).Q) tok3 (.t 0 rfl) rfl) <| .p rfl (op_max (.t 0 rfl) .k) <| .p rfl (op_assign (.t 0 rfl)) <| .nil _) (by kernel_rfl) (fun n10 a w hst => ?_)
    replace hst : St M w0 85 [(8, tv (.int .i64 (imax (share_).Q (1:Int)))), (5, tptr (rSRatio.cs share_)), (0, tsl rI a_), (1, tsl rI b_)] [] a w := (hst.pick [3, 5, 6, 7])
    refine hK9 _ _ ?_
    clear hK9 K9
    refine wp_seq_k (fun K11 hK11 => ?_)
    refine wp_seq_k (fun K12 hK12 => ?_)
    obtain ⟨t20, ht20, h⟩ := bind_some h
    obtain ⟨t24, ht24, h⟩ := bind_some h
    obtain ⟨t29, ht29, h⟩ := bind_some h
    refine wp_reg mixed [] hst (fun _ => .p rfl (op_move (.t 2 rfl)) <| .p rfl (op_callF call19 (RightR_ok ht20) (.cons (.of (.t 0 rfl)) <| .nil)) <| .p rfl (op_not (.t 0 rfl)) <| .p rfl (op_move (.t 0 rfl)) <| .g rfl rfl (.b 0 rfl) (fun _ => op_move (.t 7 rfl)) <| .g rfl rfl (.b 1 rfl) (fun hc => op_callF call19 (RightR_ok (opt_t ht24 hc)) (.cons (.of (.cond (.t 0 rfl) hc)) <| .nil)) <| .g rfl rfl (.b 2 rfl) (fun hc => op_not (.cond (.t 0 rfl) hc)) <| .p rfl (op_or (.t 3 rfl) (fun hp => (.cond (.t 0 rfl) (beqF hp)))) <| .p rfl (op_move (.t 0 rfl)) <| .g rfl rfl (.b 0 rfl) (fun _ => op_load tok39 (.t 10 rfl)) <| .g rfl rfl (.b 1 rfl) (fun hc => op_callF call54 (ValidR_ok (opt_t ht29 hc)) (.cons (.of (.cond (.t 0 rfl) hc)) <| .nil)) <| .g rfl rfl (.b 2 rfl) (fun hc => op_not (.cond (.t 0 rfl) hc)) <| .p rfl (op_or (.t 3 rfl) (fun hp => (.cond (.t 0 rfl) (beqF hp)))) <| .p rfl (op_move (.t 0 rfl)) <| .g rfl rfl (.b 0 rfl) (fun _ => op_field fld39_0 (.t 15 rfl)) <| .g rfl rfl (.b 1 rfl) (fun hc => op_loadT (u := (share_).P) tok3 (.cond (.t 0 rfl) hc) rfl) <| .g rfl rfl (.b 2 rfl) (fun hc => op_lss (.cond (.t 0 rfl) hc) .k) <| .p rfl (op_or (.t 3 rfl) (fun hp => (.cond (.t 0 rfl) (beqF hp)))) <| .p rfl (op_move (.t 0 rfl)) <| .g rfl rfl (.b 0 rfl) (fun _ => op_field fld39_0 (.t 20 rfl)) <| .g rfl rfl (.b 1 rfl) (fun hc => op_loadT (u := (share_).P) tok3 (.cond (.t 0 rfl) hc) rfl) <| .g rfl rfl (.b 2 rfl) (fun _ => op_move (.t 21 rfl)) <| .g rfl rfl (.b 3 rfl) (fun hc => op_gtr (.cond (.t 1 rfl) hc) (.cond (.t 0 rfl) hc)) <| .p rfl (op_or (.t 4 rfl) (fun hp => (.cond (.t 0 rfl) (beqF hp)))) <| .p rfl (op_move (.t 0 rfl)) <| .g rfl rfl (.b 0 rfl) (fun _ => op_move (.t 25 rfl)) <| .g rfl rfl (.b 1 rfl) (fun hc => op_gtr (.cond (.t 0 rfl) hc) .k) <| .p rfl (op_or (.t 2 rfl) (fun hp => (.cond (.t 0 rfl) (beqF hp)))) <| .nil _) (by kernel_rfl) (fun n13 a w hst => ?_)
    replace hst : St M w0 85 [(46, tv (.bool ((((((!t20) || (!t24)) || (!t29)) || (decide ((share_).P < (0:Int)))) || (decide ((share_).P > (imax (share_).Q (1:Int))))) || (decide ((imax (share_).Q (1:Int)) > (1024:Int)))))), (8, tv (.int .i64 (imax (share_).Q (1:Int)))), (5, tptr (rSRatio.cs share_)), (0, tsl rI a_), (1, tsl rI b_)] [] a w := (hst.pick [27, 28, 29, 30, 31])
    refine hK12 _ _ ?_
    clear hK12 K12
    refine wp_test 0 hst rfl (fun b55 => ?_) (fun b55 => ?_)
    · replace h := ite_t b55 h
      refine wp_seq_k (fun K14 hK14 => ?_)
      refine wp_reg mixed [] hst (fun _ => .p rfl (op_assign .k) <| .p rfl (op_assign .k) <| .nil _) (by kernel_rfl) (fun n15 a w hst => ?_)
      replace hst : St M w0 85 [(6, tv (.slice none 0 0)), (7, tv (.int .i64 (5:Int)))] [] a w := (hst.pick [0, 1])
      replace hst := hst.nil rI 3
      refine hK14 _ _ ?_
      clear hK14 K14
      refine wp_ret ?_
      obtain rfl := Option.some.inj h
      exact ret_st (.slice none 0 0) hst rfl (.tmp (.t 0 rfl) (.tmp (.t 1 rfl) .nil)) (fun g hg => (by cases hg; exact ⟨0, rfl⟩)) rfl
    · replace h := ite_f b55 h
      refine wp_skip ?_
      refine hK11 _ _ ?_
      clear hK11 K11
      refine wp_seq_k (fun K17 hK17 => ?_)
      refine wp_reg mixed [] hst (fun _ => .p rfl (op_assign .k) <| .nil _) (by kernel_rfl) (fun n18 a w hst => ?_)
      replace hst : St M w0 85 [(9, tv (.slice none 0 0)), (8, tv (.int .i64 (imax (share_).Q (1:Int)))), (5, tptr (rSRatio.cs share_)), (0, tsl rI a_), (1, tsl rI b_)] [] a w := (hst.pick [0, 2, 3, 4, 5])
      replace hst := hst.nil rI 3
      refine hK17 _ _ ?_
      clear hK17 K17
      refine wp_seq_k (fun K20 hK20 => ?_)
      refine wp_seq_k (fun K21 hK21 => ?_)
      refine wp_reg mixed [] hst (fun _ => .p rfl (op_assign .k) <| .nil _) (by kernel_rfl) (fun n22 a w hst => ?_)
      replace hst : St M w0 85 [(10, tv (.int .i64 (0:Int))), (9, tv (.slice none 0 0)), (8, tv (.int .i64 (imax (share_).Q (1:Int)))), (5, tptr (rSRatio.cs share_)), (0, tsl rI a_), (1, tsl rI b_)] [own rI 3 ([] : List Int) (.slice none 0 0)] a w := (hst.pick [0, 1, 2, 3, 4, 5])
      refine hK21 _ _ ?_
      clear hK21 K21
      obtain ⟨e25, he25, h⟩ := bind_some h
      have hJp33 : ∀ (p33 : List Int) (v34 : Value) a w, p33 = e25 → St M w0 85 [(9, tv v34)] [own rI 3 p33 v34] a w → K20 a w := by
        intro p33 v34 a w he hst
        subst he
        refine hK20 _ _ ?_
        clear hK20 K20
        refine wp_seq_k (fun K35 hK35 => ?_)
        obtain ⟨t80, ht80, h⟩ := bind_some h
        refine wp_reg mixed [(1, fun v => own rI 3 t80 v)] hst (fun _ => .p rfl (op_move (.t 0 rfl)) <| .m 1 [0] rfl rfl rfl (op_callFU [own rI 3 p33 v34] call24 (LowestR_ok ht80) (.cons (.own (.t 0 rfl) (.head _)) <| .nil) (fun _ => flat_tv) (fun h hh x => (by cases hh; exact flat_own (by intro x T h; simp at h; (first | (subst h; exact flat_tv) | (rcases h with h | h | h <;> subst h <;> exact flat_tv)))))) <| .pd (f := fun v => tv v) 1 rfl (op_assign (.t 0 rfl)) <| .nil _) (by kernel_rfl) (fun n36 a w hst => ?_)
        replace hst : St M w0 85 [(79, tv v34), (80, tv (n36 1)), (9, tv (n36 1))] [own rI 3 p33 v34, own rI 3 t80 (n36 1)] a w := (hst.pick [0, 1, 2])
        refine hK35 _ _ ?_
        clear hK35 K35
        refine wp_seq_k (fun K38 hK38 => ?_)
        refine wp_seq_k (fun K39 hK39 => ?_)
        obtain ⟨t82, ht82, h⟩ := bind_some h
        refine wp_reg mixed [] hst (fun _ => .p rfl (op_move (.t 2 rfl)) <| .u [1] rfl rfl (op_callFU [own rI 3 t80 (n36 1)] call50 (WithinR_ok ht82) (.cons (.own (.t 0 rfl) (.head _)) <| .cons (.of .k) <| .nil) (fun _ => flat_tv) (fun h hh => (by cases hh))) <| .p rfl (op_not (.t 0 rfl)) <| .nil _) (by kernel_rfl) (fun n40 a w hst => ?_)
        replace hst : St M w0 85 [(81, tv (n36 1)), (83, tv (.bool (!t82))), (79, tv v34), (80, tv (n36 1)), (9, tv (n36 1))] [own rI 3 p33 v34, own rI 3 t80 (n36 1)] a w := (hst.pick [0, 2, 3, 4, 5])
        refine hK39 _ _ ?_
        clear hK39 K39
        refine wp_test 1 hst rfl (fun b46 => ?_) (fun b46 => ?_)
        · replace h := ite_t b46 h
          refine wp_seq_k (fun K41 hK41 => ?_)
          refine wp_reg mixed [] hst (fun _ => .p rfl (op_assign .k) <| .p rfl (op_assign .k) <| .nil _) (by kernel_rfl) (fun n42 a w hst => ?_)
          replace hst : St M w0 85 [(6, tv (.slice none 0 0)), (7, tv (.int .i64 (5:Int))), (81, tv (n36 1)), (79, tv v34), (80, tv (n36 1)), (9, tv (n36 1))] [own rI 3 p33 v34, own rI 3 t80 (n36 1)] a w := (hst.pick [0, 1, 2, 4, 5, 6])
          replace hst := hst.nil rI 3
          refine hK41 _ _ ?_
          clear hK41 K41
          refine wp_ret ?_
          obtain rfl := Option.some.inj h
          exact ret_st (.slice none 0 0) hst rfl (.tmp (.t 0 rfl) (.tmp (.t 1 rfl) .nil)) (fun g hg => (by cases hg; exact ⟨0, rfl⟩)) rfl
        · replace h := ite_f b46 h
          refine wp_skip ?_
          refine hK38 _ _ ?_
          clear hK38 K38
          refine wp_seq_k (fun K44 hK44 => ?_)
          refine wp_reg mixed [] hst (fun _ => .p rfl (op_move (.t 4 rfl)) <| .p rfl (op_assign (.t 0 rfl)) <| .p rfl (op_assign .k) <| .nil _) (by kernel_rfl) (fun n45 a w hst => ?_)
          replace hst : St M w0 85 [(84, tv (n36 1)), (6, tv (n36 1)), (7, tv (.int .i64 (0:Int))), (81, tv (n36 1)), (79, tv v34), (80, tv (n36 1)), (9, tv (n36 1))] [own rI 3 p33 v34, own rI 3 t80 (n36 1)] a w := (hst.pick [0, 1, 2, 3, 5, 6, 7])
          refine hK44 _ _ ?_
          clear hK44 K44
          refine wp_ret ?_
          obtain rfl := Option.some.inj h
          exact ret_st (n36 1) hst rfl (.tmp (.t 1 rfl) (.tmp (.t 2 rfl) .nil)) (fun g hg => (by cases hg; exact ⟨1, rfl⟩)) rfl
      refine wp_block ?_
      refine wp_loopK _ (fun (s23 : Int × List Int) a w => ∃ v24 : Value, St M w0 85 [(10, tv (.int .i64 s23.1)), (9, tv v24), (8, tv (.int .i64 (imax (share_).Q (1:Int)))), (5, tptr (rSRatio.cs share_)), (0, tsl rI a_), (1, tsl rI b_)] [own rI 3 s23.2 v24] a w) _ _ he25 ⟨(.slice none 0 0), hst.pick [0, 1, 2, 3, 4, 5]⟩ ?_
      clear h
      intro s23 o a w K47 hI h ho hK47
      obtain ⟨v24, hst⟩ := hI
      refine wp_seq_k (fun K48 hK48 => ?_)
      refine wp_seq_k (fun K49 hK49 => ?_)
      refine wp_reg mixed [] hst (fun _ => .p rfl (op_move (.t 0 rfl)) <| .p rfl (op_move (.t 5 rfl)) <| .p rfl (op_len Try.underlying22 (.t 0 rfl)) <| .p rfl (op_lss (.t 2 rfl) (.t 0 rfl)) <| .nil _) (by kernel_rfl) (fun n50 a w hst => ?_)
      replace hst : St M w0 85 [(50, tv (.bool (decide (s23.1 < (a_.length : Int))))), (10, tv (.int .i64 s23.1)), (9, tv v24), (8, tv (.int .i64 (imax (share_).Q (1:Int)))), (5, tptr (rSRatio.cs share_)), (0, tsl rI a_), (1, tsl rI b_)] [own rI 3 s23.2 v24] a w := (hst.pick [3, 4, 5, 6, 7, 8, 9])
      refine hK49 _ _ ?_
      clear hK49 K49
      refine wp_test 0 hst rfl (fun b54 => ?_) (fun b54 => ?_)
      · replace h := ite_t b54 h
        refine wp_skip ?_
        refine hK48 _ _ ?_
        clear hK48 K48
        refine wp_seq_k (fun K51 hK51 => ?_)
        refine wp_block ?_
        obtain ⟨t60, ht60, h⟩ := bind_some h
        obtain ⟨t64, ht64, h⟩ := bind_some h
        obtain ⟨t70, ht70, h⟩ := bind_some h
        obtain ⟨t74, ht74, h⟩ := bind_some h
        obtain ⟨u78, hu78, h⟩ := bind_some h
        refine wp_reg mixed [(1, fun v => own rI 3 (s23.2 ++ [(IntKind.i64.wrap ((IntKind.i64.wrap ((IntKind.i64.wrap ((IntKind.i64.wrap ((imax (share_).Q (1:Int)) - (share_).P)) * t60)) * t64)) + (IntKind.i64.wrap ((IntKind.i64.wrap ((share_).P * t70)) * t74))))]) v)] hst (fun _ => .p rfl (op_move (.t 2 rfl)) <| .p rfl (op_move (.t 4 rfl)) <| .p rfl (op_field fld39_0 (.t 6 rfl)) <| .p rfl (op_loadT (u := (share_).P) tok3 (.t 0 rfl) rfl) <| .p rfl (op_sub (.t 2 rfl) (.t 0 rfl)) <| .p rfl (op_move (.t 10 rfl)) <| .p rfl (op_move (.t 7 rfl)) <| .p rfl (op_index Try.underlying22 tok3 (.t 1 rfl) (.t 0 rfl) ht60) <| .p rfl (op_load tok3 (.t 0 rfl)) <| .p rfl (op_mul (.t 4 rfl) (.t 0 rfl)) <| .p rfl (op_move (.t 16 rfl)) <| .p rfl (op_callF call45 (SumR_ok ht64) (.cons (.of (.t 0 rfl)) <| .nil)) <| .p rfl (op_mul (.t 2 rfl) (.t 0 rfl)) <| .p rfl (op_field fld39_0 (.t 17 rfl)) <| .p rfl (op_loadT (u := (share_).P) tok3 (.t 0 rfl) rfl) <| .p rfl (op_move (.t 21 rfl)) <| .p rfl (op_move (.t 17 rfl)) <| .p rfl (op_index Try.underlying22 tok3 (.t 1 rfl) (.t 0 rfl) ht70) <| .p rfl (op_load tok3 (.t 0 rfl)) <| .p rfl (op_mul (.t 4 rfl) (.t 0 rfl)) <| .p rfl (op_move (.t 25 rfl)) <| .p rfl (op_callF call45 (SumR_ok ht74) (.cons (.of (.t 0 rfl)) <| .nil)) <| .p rfl (op_mul (.t 2 rfl) (.t 0 rfl)) <| .p rfl (op_add (.t 10 rfl) (.t 0 rfl)) <| .p rfl (op_buildSl (R := rI) (us := [(IntKind.i64.wrap ((IntKind.i64.wrap ((IntKind.i64.wrap ((IntKind.i64.wrap ((imax (share_).Q (1:Int)) - (share_).P)) * t60)) * t64)) + (IntKind.i64.wrap ((IntKind.i64.wrap ((share_).P * t70)) * t74))))]) Try.underlying22 tok3 (.cons (.t 0 rfl) <| .nil _) rfl (Nat.le_of_ble_eq_true rfl)) <| .e 0 1 [] rfl rfl rfl rfl (op_append (R := rI) Try.underlying22 tok3 (Nat.le_of_ble_eq_true rfl) (.t 24 rfl) (.t 0 rfl) hu78) <| .pd (f := fun v => tv v) 1 rfl (op_assign (.t 0 rfl)) <| .nil _) (by kernel_rfl) (fun n52 a w hst => ?_)
        replace hst : St M w0 85 [(78, tv (n52 1)), (9, tv (n52 1)), (10, tv (.int .i64 s23.1)), (8, tv (.int .i64 (imax (share_).Q (1:Int)))), (5, tptr (rSRatio.cs share_)), (0, tsl rI a_), (1, tsl rI b_)] [own rI 3 (s23.2 ++ [(IntKind.i64.wrap ((IntKind.i64.wrap ((IntKind.i64.wrap ((IntKind.i64.wrap ((imax (share_).Q (1:Int)) - (share_).P)) * t60)) * t64)) + (IntKind.i64.wrap ((IntKind.i64.wrap ((share_).P * t70)) * t74))))]) (n52 1)] a w := (hst.pick [25, 26, 28, 29, 30, 31, 32])
        refine hK51 _ _ ?_
        clear hK51 K51
        refine wp_reg mixed [] hst (fun _ => .p rfl (op_move (.t 2 rfl)) <| .p rfl (op_add (.t 0 rfl) .k) <| .p rfl (op_assign (.t 0 rfl)) <| .nil _) (by kernel_rfl) (fun n53 a w hst => ?_)
        replace hst : St M w0 85 [(10, tv (.int .i64 (IntKind.i64.wrap (s23.1 + (1:Int))))), (78, tv (n52 1)), (9, tv (n52 1)), (8, tv (.int .i64 (imax (share_).Q (1:Int)))), (5, tptr (rSRatio.cs share_)), (0, tsl rI a_), (1, tsl rI b_)] [own rI 3 (s23.2 ++ [(IntKind.i64.wrap ((IntKind.i64.wrap ((IntKind.i64.wrap ((IntKind.i64.wrap ((imax (share_).Q (1:Int)) - (share_).P)) * t60)) * t64)) + (IntKind.i64.wrap ((IntKind.i64.wrap ((share_).P * t70)) * t74))))]) (n52 1)] a w := (hst.pick [2, 3, 4, 5, 6, 7, 8])
        exact hK47 _ _ _ (Option.some.inj h).symm ⟨(n52 1), hst.pick [0, 2, 3, 4, 5, 6]⟩
      · replace h := ite_f b54 h
        refine wp_exit ?_
        exact hJp33 _ v24 _ _ (ho _ (Option.some.inj h).symm) (hst.pick [2])


end Go.Proofs.Ytjniiejgccdhiaa
