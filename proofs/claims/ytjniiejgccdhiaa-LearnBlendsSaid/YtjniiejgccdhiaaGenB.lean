/- Go functions as Lean functions, and the proofs that they compute them, written by a program. No condition. -/
import Derived.Test.YtjniiejgccdhiaaGenA
namespace Go.Proofs.Ytjniiejgccdhiaa
open Go.Sim

/- diorama/learn.within$1 -/
noncomputable def fwithin1 (x_ : Int) (c0_ : Int) : Option (Bool) := (some ((decide (x_ < (0:Int))) || (decide (x_ > c0_))))
set_option maxRecDepth 100000 in
theorem within1_ok {x_ : Int} {c0_ : Int} {r : Bool} (h : fwithin1 x_ c0_ = some r) : FnOk Try.prog 76 [tv (.int .i64 x_), tptr (rI.cs c0_)] none (fun _ => tv (.bool r)) := by
  unfold fwithin1 at h
  refine FnOk.enter Try.func76 rfl Try.ntmps76 (Nat.le_of_ble_eq_true rfl) (fun M w0 a hst => ?_)
  replace hst : St M w0 11 [(0, tv (.int .i64 x_)), (1, tptr (rI.cs c0_))] [] a w0 := hst
  refine wp_seq_k (fun K1 hK1 => ?_)
  refine wp_reg mixed [] hst (fun _ => .p rfl (op_assign .k) <| .nil _) (by kernel_rfl) (fun n2 a w hst => ?_)
  replace hst : St M w0 11 [(0, tv (.int .i64 x_)), (1, tptr (rI.cs c0_))] [] a w := (hst.pick [1, 2])
  refine hK1 _ _ ?_
  clear hK1 K1
  refine wp_seq_k (fun K3 hK3 => ?_)
  refine wp_reg mixed [] hst (fun _ => .p rfl (op_move (.t 0 rfl)) <| .p rfl (op_lss (.t 0 rfl) .k) <| .p rfl (op_move (.t 0 rfl)) <| .g rfl rfl (.b 0 rfl) (fun _ => op_move (.t 3 rfl)) <| .g rfl rfl (.b 1 rfl) (fun _ => op_load tok3 (.t 5 rfl)) <| .g rfl rfl (.b 2 rfl) (fun hc => op_gtr (.cond (.t 1 rfl) hc) (.cond (.t 0 rfl) hc)) <| .p rfl (op_or (.t 3 rfl) (fun hp => (.cond (.t 0 rfl) (beqF hp)))) <| .p rfl (op_assign (.t 0 rfl)) <| .nil _) (by kernel_rfl) (fun n4 a w hst => ?_)
  replace hst : St M w0 11 [(3, tv (.bool ((decide (x_ < (0:Int))) || (decide (x_ > c0_)))))] [] a w := (hst.pick [7])
  refine hK3 _ _ ?_
  clear hK3 K3
  refine wp_ret ?_
  obtain rfl := Option.some.inj h
  exact ret_st undef hst rfl (.tmp (.t 0 rfl) .nil) (fun g hg => (by cases hg)) rfl

/- slices.IndexFunc[[]int,int] -/
noncomputable def fIndexI (s_ : (List Int)) (f_ : (Int → Option Bool)) : Option (Int) := (tailrec (fun (s6 : Int) => ((if (decide (s6 < (s_.length : Int))) = true then (idx s_ s6).bind fun t14 => (f_ t14).bind fun t16 => (if t16 = true then (some (.inr (.inr s6))) else (some (.inl (IntKind.i64.wrap (s6 + (1:Int)))))) else (some (.inr (.inl ())))) : Option ((Int) ⊕ ((Unit) ⊕ (Int))))) (0:Int)).bind fun (e7 : (Unit) ⊕ (Int)) => (match e7 with | .inl p21 => (some (-1:Int)) | .inr p22 => (some p22))
set_option maxRecDepth 100000 in
theorem IndexI_ok {s_ : (List Int)} {f_ : (Int → Option Bool)} {r : Int} (h : fIndexI s_ f_ = some r) : FnOk Try.prog 85 [tsl rI s_, tpred Try.prog rI f_] none (fun _ => tv (.int .i64 r)) := by
  unfold fIndexI at h
  refine FnOk.enter Try.func85 rfl Try.ntmps85 (Nat.le_of_ble_eq_true rfl) (fun M w0 a hst => ?_)
  replace hst : St M w0 19 [(0, tsl rI s_), (1, tpred Try.prog rI f_)] [] a w0 := hst
  refine wp_seq_k (fun K1 hK1 => ?_)
  refine wp_reg mixed [] hst (fun _ => .p rfl (op_assign .k) <| .nil _) (by kernel_rfl) (fun n2 a w hst => ?_)
  replace hst : St M w0 19 [(0, tsl rI s_), (1, tpred Try.prog rI f_)] [] a w := (hst.pick [1, 2])
  refine hK1 _ _ ?_
  clear hK1 K1
  refine wp_seq_k (fun K3 hK3 => ?_)
  refine wp_seq_k (fun K4 hK4 => ?_)
  refine wp_reg mixed [] hst (fun _ => .p rfl (op_move (.t 0 rfl)) <| .p rfl (op_len Try.underlying22 (.t 0 rfl)) <| .p rfl (op_move .k) <| .nil _) (by kernel_rfl) (fun n5 a w hst => ?_)
  replace hst : St M w0 19 [(7, tv (.int .i64 (s_.length : Int))), (8, tv (.int .i64 (0:Int))), (0, tsl rI s_), (1, tpred Try.prog rI f_)] [] a w := (hst.pick [1, 2, 3, 4])
  refine hK4 _ _ ?_
  clear hK4 K4
  obtain ⟨e7, he7, h⟩ := bind_some h
  have hJp21 : ∀ (p21 : Unit) a w, (.inl p21) = e7 → St M w0 19 [] [] a w → K3 a w := by
    intro p21 a w he hst
    subst he
    simp only at h
    refine hK3 _ _ ?_
    clear hK3 K3
    refine wp_seq_k (fun K23 hK23 => ?_)
    refine wp_reg mixed [] hst (fun _ => .p rfl (op_assign .k) <| .nil _) (by kernel_rfl) (fun n24 a w hst => ?_)
    replace hst : St M w0 19 [(4, tv (.int .i64 (-1:Int)))] [] a w := (hst.pick [0])
    refine hK23 _ _ ?_
    clear hK23 K23
    refine wp_ret ?_
    obtain rfl := Option.some.inj h
    exact ret_st undef hst rfl (.tmp (.t 0 rfl) .nil) (fun g hg => (by cases hg)) rfl
  have hJp22 : ∀ (p22 : Int) a w, (.inr p22) = e7 → St M w0 19 [(4, tv (.int .i64 p22))] [] a w → Ret Try.prog Try.f85 M w0 none (fun _ => tv (.int .i64 r)) .ret a w := by
    intro p22 a w he hst
    subst he
    simp only at h
    obtain rfl := Option.some.inj h
    exact ret_st undef hst rfl (.tmp (.t 0 rfl) .nil) (fun g hg => (by cases hg)) rfl
  refine wp_block ?_
  refine wp_loopK _ (fun (s6 : Int) a w => St M w0 19 [(7, tv (.int .i64 (s_.length : Int))), (8, tv (.int .i64 s6)), (0, tsl rI s_), (1, tpred Try.prog rI f_)] [] a w) _ _ he7 (hst.pick [0, 1, 2, 3]) ?_
  clear h
  intro s6 o a w K25 hI h ho hK25
  have hst := hI
  clear hI
  refine wp_seq_k (fun K26 hK26 => ?_)
  refine wp_reg mixed [] hst (fun _ => .p rfl (op_lss (.t 1 rfl) (.t 0 rfl)) <| .nil _) (by kernel_rfl) (fun n27 a w hst => ?_)
  replace hst : St M w0 19 [(9, tv (.bool (decide (s6 < (s_.length : Int))))), (7, tv (.int .i64 (s_.length : Int))), (8, tv (.int .i64 s6)), (0, tsl rI s_), (1, tpred Try.prog rI f_)] [] a w := (hst.pick [0, 1, 2, 3, 4])
  refine hK26 _ _ ?_
  clear hK26 K26
  refine wp_seq_k (fun K28 hK28 => ?_)
  refine wp_test 0 hst rfl (fun b38 => ?_) (fun b38 => ?_)
  · replace h := ite_t b38 h
    refine wp_skip ?_
    refine hK28 _ _ ?_
    clear hK28 K28
    refine wp_seq_k (fun K29 hK29 => ?_)
    refine wp_block ?_
    refine wp_seq_k (fun K30 hK30 => ?_)
    refine wp_reg mixed [] hst (fun _ => .p rfl (op_move (.t 2 rfl)) <| .p rfl (op_assign (.t 0 rfl)) <| .nil _) (by kernel_rfl) (fun n31 a w hst => ?_)
    replace hst : St M w0 19 [(5, tv (.int .i64 s6)), (7, tv (.int .i64 (s_.length : Int))), (8, tv (.int .i64 s6)), (0, tsl rI s_), (1, tpred Try.prog rI f_)] [] a w := (hst.pick [1, 3, 4, 5, 6])
    refine hK30 _ _ ?_
    clear hK30 K30
    refine wp_seq_k (fun K32 hK32 => ?_)
    obtain ⟨t14, ht14, h⟩ := bind_some h
    obtain ⟨t16, ht16, h⟩ := bind_some h
    refine wp_reg mixed [] hst (fun _ => .p rfl (op_move (.t 4 rfl)) <| .p rfl (op_move (.t 4 rfl)) <| .p rfl (op_move (.t 2 rfl)) <| .p rfl (op_index Try.underlying22 tok3 (.t 1 rfl) (.t 0 rfl) ht14) <| .p rfl (op_load tok3 (.t 0 rfl)) <| .p rfl (op_callP (u := t14) (.t 4 rfl) (.t 0 rfl) ht16) <| .nil _) (by kernel_rfl) (fun n33 a w hst => ?_)
    replace hst : St M w0 19 [(16, tv (.bool t16)), (5, tv (.int .i64 s6)), (7, tv (.int .i64 (s_.length : Int))), (8, tv (.int .i64 s6)), (0, tsl rI s_), (1, tpred Try.prog rI f_)] [] a w := (hst.pick [5, 6, 7, 8, 9, 10])
    refine hK32 _ _ ?_
    clear hK32 K32
    refine wp_test 0 hst rfl (fun b37 => ?_) (fun b37 => ?_)
    · replace h := ite_t b37 h
      refine wp_seq_k (fun K34 hK34 => ?_)
      refine wp_reg mixed [] hst (fun _ => .p rfl (op_move (.t 1 rfl)) <| .p rfl (op_assign (.t 0 rfl)) <| .nil _) (by kernel_rfl) (fun n35 a w hst => ?_)
      replace hst : St M w0 19 [(4, tv (.int .i64 s6))] [] a w := (hst.pick [1])
      refine hK34 _ _ ?_
      clear hK34 K34
      refine wp_ret ?_
      exact hJp22 _ _ _ (ho _ (Option.some.inj h).symm) (hst.pick [0])
    · replace h := ite_f b37 h
      refine wp_skip ?_
      refine hK29 _ _ ?_
      clear hK29 K29
      refine wp_reg mixed [] hst (fun _ => .p rfl (op_add (.t 3 rfl) .k) <| .p rfl (op_move (.t 0 rfl)) <| .nil _) (by kernel_rfl) (fun n36 a w hst => ?_)
      replace hst : St M w0 19 [(8, tv (.int .i64 (IntKind.i64.wrap (s6 + (1:Int))))), (7, tv (.int .i64 (s_.length : Int))), (0, tsl rI s_), (1, tpred Try.prog rI f_)] [] a w := (hst.pick [1, 4, 5, 6])
      exact hK25 _ _ _ (Option.some.inj h).symm (hst.pick [1, 0, 2, 3])
  · replace h := ite_f b38 h
    refine wp_exit ?_
    exact hJp21 _ _ _ (ho _ (Option.some.inj h).symm) (hst.pick [])

/- slices.ContainsFunc[[]int,int] -/
noncomputable def fContainsI (s_ : (List Int)) (f_ : (Int → Option Bool)) : Option (Bool) := (fIndexI s_ f_).bind fun t7 => (some (decide (t7 ≥ (0:Int))))
set_option maxRecDepth 100000 in
theorem ContainsI_ok {s_ : (List Int)} {f_ : (Int → Option Bool)} {r : Bool} (h : fContainsI s_ f_ = some r) : FnOk Try.prog 68 [tsl rI s_, tpred Try.prog rI f_] none (fun _ => tv (.bool r)) := by
  unfold fContainsI at h
  refine FnOk.enter Try.func68 rfl Try.ntmps68 (Nat.le_of_ble_eq_true rfl) (fun M w0 a hst => ?_)
  replace hst : St M w0 9 [(0, tsl rI s_), (1, tpred Try.prog rI f_)] [] a w0 := hst
  refine wp_seq_k (fun K1 hK1 => ?_)
  refine wp_reg mixed [] hst (fun _ => .p rfl (op_assign .k) <| .nil _) (by kernel_rfl) (fun n2 a w hst => ?_)
  replace hst : St M w0 9 [(0, tsl rI s_), (1, tpred Try.prog rI f_)] [] a w := (hst.pick [1, 2])
  refine hK1 _ _ ?_
  clear hK1 K1
  refine wp_seq_k (fun K3 hK3 => ?_)
  obtain ⟨t7, ht7, h⟩ := bind_some h
  refine wp_reg mixed [] hst (fun _ => .p rfl (op_move (.t 0 rfl)) <| .p rfl (op_move (.t 2 rfl)) <| .p rfl (op_callF call85 (IndexI_ok ht7) (.cons (.of (.t 1 rfl)) <| .cons (.of (.t 0 rfl)) <| .nil)) <| .p rfl (op_geq (.t 0 rfl) .k) <| .p rfl (op_assign (.t 0 rfl)) <| .nil _) (by kernel_rfl) (fun n4 a w hst => ?_)
  replace hst : St M w0 9 [(4, tv (.bool (decide (t7 ≥ (0:Int)))))] [] a w := (hst.pick [4])
  refine hK3 _ _ ?_
  clear hK3 K3
  refine wp_ret ?_
  obtain rfl := Option.some.inj h
  exact ret_st undef hst rfl (.tmp (.t 0 rfl) .nil) (fun g hg => (by cases hg)) rfl

/- diorama/learn.within -/
noncomputable def fwithin (l_ : (List Int)) (most_ : Int) : Option (Bool) := (opt (((decide ((l_.length : Int) ≥ (1:Int))) && (decide ((l_.length : Int) ≤ (12:Int)))) == true) (fContainsI l_ (fun x => fwithin1 x most_)) default).bind fun t16 => (some (((decide ((l_.length : Int) ≥ (1:Int))) && (decide ((l_.length : Int) ≤ (12:Int)))) && (!t16)))
set_option maxRecDepth 100000 in
theorem within_ok {l_ : (List Int)} {most_ : Int} {r : Bool} (h : fwithin l_ most_ = some r) : FnOk Try.prog 46 [tsl rI l_, tv (.int .i64 most_)] none (fun _ => tv (.bool r)) := by
  unfold fwithin at h
  refine FnOk.enter Try.func46 rfl Try.ntmps46 (Nat.le_of_ble_eq_true rfl) (fun M w0 a hst => ?_)
  replace hst : St M w0 19 [(0, tsl rI l_), (1, tv (.int .i64 most_))] [] a w0 := hst
  refine wp_seq_k (fun K1 hK1 => ?_)
  refine wp_reg mixed [] hst (fun _ => .p rfl (op_boxR (R := rI) (u := most_) (.t 1 rfl)) <| .p rfl (op_assign .k) <| .nil _) (by kernel_rfl) (fun n2 a w hst => ?_)
  replace hst : St M w0 19 [(3, tptr (rI.cs most_)), (0, tsl rI l_)] [] a w := (hst.pick [0, 2])
  refine hK1 _ _ ?_
  clear hK1 K1
  refine wp_seq_k (fun K3 hK3 => ?_)
  obtain ⟨t16, ht16, h⟩ := bind_some h
  refine wp_reg mixed [] hst (fun _ => .p rfl (op_move (.t 1 rfl)) <| .p rfl (op_len Try.underlying22 (.t 0 rfl)) <| .p rfl (op_geq (.t 0 rfl) .k) <| .p rfl (op_move (.t 0 rfl)) <| .g rfl rfl (.b 0 rfl) (fun _ => op_move (.t 5 rfl)) <| .g rfl rfl (.b 1 rfl) (fun hc => op_len Try.underlying22 (.cond (.t 0 rfl) hc)) <| .g rfl rfl (.b 2 rfl) (fun hc => op_leq (.cond (.t 0 rfl) hc) .k) <| .p rfl (op_and (.t 3 rfl) (fun hp => (.cond (.t 0 rfl) (beqT hp)))) <| .p rfl (op_move (.t 0 rfl)) <| .g rfl rfl (.b 0 rfl) (fun _ => op_move (.t 10 rfl)) <| .g rfl rfl (.b 1 rfl) (fun _ => op_clo (.cons (.t 10 rfl) <| .nil)) <| .g rfl rfl (.b 2 rfl) (fun hc => op_callF call68 (ContainsI_ok (opt_t ht16 hc)) (.cons (.of (.cond (.t 1 rfl) hc)) <| .cons (.of (Fct.weak (.cond (.t 0 rfl) hc) (pred_of (R := rI) call76 (fun _ _ hq => within1_ok hq)))) <| .nil)) <| .g rfl rfl (.b 3 rfl) (fun hc => op_not (.cond (.t 0 rfl) hc)) <| .p rfl (op_and (.t 4 rfl) (fun hp => (.cond (.t 0 rfl) (beqT hp)))) <| .p rfl (op_assign (.t 0 rfl)) <| .nil _) (by kernel_rfl) (fun n4 a w hst => ?_)
  replace hst : St M w0 19 [(4, tv (.bool (((decide ((l_.length : Int) ≥ (1:Int))) && (decide ((l_.length : Int) ≤ (12:Int)))) && (!t16))))] [] a w := (hst.pick [14])
  refine hK3 _ _ ?_
  clear hK3 K3
  refine wp_ret ?_
  obtain rfl := Option.some.inj h
  exact ret_st undef hst rfl (.tmp (.t 0 rfl) .nil) (fun g hg => (by cases hg)) rfl

/- diorama/learn.right -/
noncomputable def fright (l_ : (List Int)) : Option (Bool) := (fwithin l_ (1048576:Int)).bind fun t4 => (opt (t4 == true) (fsum l_) default).bind fun t7 => (some (t4 && (decide (t7 > (0:Int)))))
set_option maxRecDepth 100000 in
theorem right_ok {l_ : (List Int)} {r : Bool} (h : fright l_ = some r) : FnOk Try.prog 77 [tsl rI l_] none (fun _ => tv (.bool r)) := by
  unfold fright at h
  refine FnOk.enter Try.func77 rfl Try.ntmps77 (Nat.le_of_ble_eq_true rfl) (fun M w0 a hst => ?_)
  replace hst : St M w0 10 [(0, tsl rI l_)] [] a w0 := hst
  refine wp_seq_k (fun K1 hK1 => ?_)
  refine wp_reg mixed [] hst (fun _ => .p rfl (op_assign .k) <| .nil _) (by kernel_rfl) (fun n2 a w hst => ?_)
  replace hst : St M w0 10 [(0, tsl rI l_)] [] a w := (hst.pick [1])
  refine hK1 _ _ ?_
  clear hK1 K1
  refine wp_seq_k (fun K3 hK3 => ?_)
  obtain ⟨t4, ht4, h⟩ := bind_some h
  obtain ⟨t7, ht7, h⟩ := bind_some h
  refine wp_reg mixed [] hst (fun _ => .p rfl (op_move (.t 0 rfl)) <| .p rfl (op_callF call46 (within_ok ht4) (.cons (.of (.t 0 rfl)) <| .cons (.of .k) <| .nil)) <| .p rfl (op_move (.t 0 rfl)) <| .g rfl rfl (.b 0 rfl) (fun _ => op_move (.t 3 rfl)) <| .g rfl rfl (.b 1 rfl) (fun hc => op_callF call48 (sum_ok (opt_t ht7 hc)) (.cons (.of (.cond (.t 0 rfl) hc)) <| .nil)) <| .g rfl rfl (.b 2 rfl) (fun hc => op_gtr (.cond (.t 0 rfl) hc) .k) <| .p rfl (op_and (.t 3 rfl) (fun hp => (.cond (.t 0 rfl) (beqT hp)))) <| .p rfl (op_assign (.t 0 rfl)) <| .nil _) (by kernel_rfl) (fun n4 a w hst => ?_)
  replace hst : St M w0 10 [(2, tv (.bool (t4 && (decide (t7 > (0:Int))))))] [] a w := (hst.pick [7])
  refine hK3 _ _ ?_
  clear hK3 K3
  refine wp_ret ?_
  obtain rfl := Option.some.inj h
  exact ret_st undef hst rfl (.tmp (.t 0 rfl) .nil) (fun g hg => (by cases hg)) rfl

/- diorama/dioramalaw27.odd -/
noncomputable def fodd (l_ : (List Int)) (at_ : Int) (by_ : Int) : Option ((List Int)) := (rm (([] : List Int).length + l_.length)).bind fun _ => (if ((((([] : List Int) ++ l_).length : Int) == (0:Int)) || ((Int.tmod by_ (3:Int)) == (0:Int))) = true then (rm ((([] : List Int) ++ l_).length + [(1:Int)].length)).bind fun _ => (some ((([] : List Int) ++ l_) ++ [(1:Int)])) else (fAround at_ ((([] : List Int) ++ l_).length : Int)).bind fun t26 => (fAround by_ (6:Int)).bind fun t30 => (idx [(-1:Int), (524288:Int), (524289:Int), (1048576:Int), (1048577:Int), by_] t30).bind fun t31 => (setAt (([] : List Int) ++ l_) t26 t31).bind fun t33s => (some t33s))
set_option maxRecDepth 100000 in
theorem odd_ok {l_ : (List Int)} {at_ : Int} {by_ : Int} {r : (List Int)} (h : fodd l_ at_ by_ = some r) : FnOk Try.prog 14 [tsl rI l_, tv (.int .i64 at_), tv (.int .i64 by_)] (some fun v => own rI 3 r v) (fun v => tv v) := by
  unfold fodd at h
  refine FnOk.enter Try.func14 rfl Try.ntmps14 (Nat.le_of_ble_eq_true rfl) (fun M w0 a hst => ?_)
  replace hst : St M w0 35 [(0, tsl rI l_), (1, tv (.int .i64 at_)), (2, tv (.int .i64 by_))] [] a w0 := hst
  refine wp_seq_k (fun K1 hK1 => ?_)
  refine wp_reg mixed [] hst (fun _ => .p rfl (op_assign .k) <| .nil _) (by kernel_rfl) (fun n2 a w hst => ?_)
  replace hst : St M w0 35 [(0, tsl rI l_), (1, tv (.int .i64 at_)), (2, tv (.int .i64 by_))] [] a w := (hst.pick [1, 2, 3])
  refine hK1 _ _ ?_
  clear hK1 K1
  refine wp_seq_k (fun K3 hK3 => ?_)
  obtain ⟨u10, hu10, h⟩ := bind_some h
  refine wp_reg mixed [(0, fun v => own rI 3 ([] : List Int) v), (1, fun v => own rI 3 (([] : List Int) ++ l_) v)] hst (fun _ => .m 0 [] rfl rfl rfl (op_buildSlO (R := rI) (us := ([] : List Int)) Try.underlying22 tok3 (.nil _) rfl (Nat.le_of_ble_eq_true rfl) (Nat.le_of_ble_eq_true rfl)) <| .p rfl (op_move (.t 1 rfl)) <| .e 0 1 [] rfl rfl rfl rfl (op_append (R := rI) Try.underlying22 tok3 (Nat.le_of_ble_eq_true rfl) (.t 1 rfl) (.t 0 rfl) hu10) <| .pd (f := fun v => tv v) 1 rfl (op_assign (.t 0 rfl)) <| .nil _) (by kernel_rfl) (fun n4 a w hst => ?_)
  replace hst : St M w0 35 [(10, tv (n4 1)), (7, tv (n4 1)), (1, tv (.int .i64 at_)), (2, tv (.int .i64 by_))] [own rI 3 (([] : List Int) ++ l_) (n4 1)] a w := (hst.pick [2, 3, 5, 6])
  refine hK3 _ _ ?_
  clear hK3 K3
  refine wp_seq_k (fun K6 hK6 => ?_)
  refine wp_seq_k (fun K7 hK7 => ?_)
  refine wp_reg mixed [] hst (fun _ => .p rfl (op_move (.t 1 rfl)) <| .u [0] rfl rfl (op_lenO Try.underlying22 (.t 0 rfl)) <| .p rfl (op_eql (.t 0 rfl) .k) <| .p rfl (op_move (.t 0 rfl)) <| .g rfl rfl (.b 0 rfl) (fun _ => op_move (.t 7 rfl)) <| .g rfl rfl (.b 1 rfl) (fun hc => op_rem (.cond (.t 0 rfl) hc) .k (by decide)) <| .g rfl rfl (.b 2 rfl) (fun hc => op_eql (.cond (.t 0 rfl) hc) .k) <| .p rfl (op_or (.t 3 rfl) (fun hp => (.cond (.t 0 rfl) (beqF hp)))) <| .nil _) (by kernel_rfl) (fun n8 a w hst => ?_)
  replace hst : St M w0 35 [(11, tv (n4 1)), (18, tv (.bool ((((([] : List Int) ++ l_).length : Int) == (0:Int)) || ((Int.tmod by_ (3:Int)) == (0:Int))))), (10, tv (n4 1)), (7, tv (n4 1)), (1, tv (.int .i64 at_)), (2, tv (.int .i64 by_))] [own rI 3 (([] : List Int) ++ l_) (n4 1)] a w := (hst.pick [0, 7, 8, 9, 10, 11])
  refine hK7 _ _ ?_
  clear hK7 K7
  refine wp_test 1 hst rfl (fun b15 => ?_) (fun b15 => ?_)
  · replace h := ite_t b15 h
    refine wp_seq_k (fun K9 hK9 => ?_)
    obtain ⟨u21, hu21, h⟩ := bind_some h
    refine wp_reg mixed [(1, fun v => own rI 3 ((([] : List Int) ++ l_) ++ [(1:Int)]) v)] hst (fun _ => .p rfl (op_move (.t 3 rfl)) <| .p rfl (op_buildSl (R := rI) (us := [(1:Int)]) Try.underlying22 tok3 (.cons .k <| .nil _) rfl (Nat.le_of_ble_eq_true rfl)) <| .e 0 1 [] rfl rfl rfl rfl (op_append (R := rI) Try.underlying22 tok3 (Nat.le_of_ble_eq_true rfl) (.t 1 rfl) (.t 0 rfl) hu21) <| .pd (f := fun v => tv v) 1 rfl (op_assign (.t 0 rfl)) <| .nil _) (by kernel_rfl) (fun n10 a w hst => ?_)
    replace hst : St M w0 35 [(21, tv (n10 1)), (6, tv (n10 1))] [own rI 3 ((([] : List Int) ++ l_) ++ [(1:Int)]) (n10 1)] a w := (hst.pick [2, 3])
    refine hK9 _ _ ?_
    clear hK9 K9
    refine wp_ret ?_
    obtain rfl := Option.some.inj h
    exact ret_st (n10 1) hst rfl (.tmp (.t 1 rfl) .nil) (fun g hg => (by cases hg; exact ⟨0, rfl⟩)) rfl
  · replace h := ite_f b15 h
    refine wp_skip ?_
    refine hK6 _ _ ?_
    clear hK6 K6
    refine wp_seq_k (fun K11 hK11 => ?_)
    obtain ⟨t26, ht26, h⟩ := bind_some h
    obtain ⟨t30, ht30, h⟩ := bind_some h
    obtain ⟨t31, ht31, h⟩ := bind_some h
    obtain ⟨t33s, ht33s, h⟩ := bind_some h
    refine wp_reg mixed [(1, fun _ => own rI 3 t33s (n4 1))] hst (fun _ => .p rfl (op_move (.t 3 rfl)) <| .p rfl (op_move (.t 5 rfl)) <| .p rfl (op_move (.t 5 rfl)) <| .u [0] rfl rfl (op_lenO Try.underlying22 (.t 0 rfl)) <| .p rfl (op_callF call13 (Around_ok ht26) (.cons (.of (.t 2 rfl)) <| .cons (.of (.t 0 rfl)) <| .nil)) <| .p rfl (op_move (.t 10 rfl)) <| .p rfl (op_buildSl (R := rI) (us := [(-1:Int), (524288:Int), (524289:Int), (1048576:Int), (1048577:Int), by_]) Try.underlying22 tok3 (.cons .k <| .cons .k <| .cons .k <| .cons .k <| .cons .k <| .cons (.t 0 rfl) <| .nil _) rfl (Nat.le_of_ble_eq_true rfl)) <| .p rfl (op_move (.t 12 rfl)) <| .p rfl (op_callF call13 (Around_ok ht30) (.cons (.of (.t 0 rfl)) <| .cons (.of .k) <| .nil)) <| .p rfl (op_index Try.underlying22 tok3 (.t 2 rfl) (.t 0 rfl) ht31) <| .p rfl (op_load tok3 (.t 0 rfl)) <| .u [0] rfl rfl (op_indexOs Try.underlying22 tok3 (.t 10 rfl) (.t 6 rfl) ht33s) <| .e 0 1 [] rfl rfl rfl rfl (op_storeO tok3 (.t 0 rfl) (.t 1 rfl) ht33s) <| .nil _) (by kernel_rfl) (fun n12 a w hst => ?_)
    replace hst : St M w0 35 [(22, tv (n4 1)), (24, tv (n4 1)), (11, tv (n4 1)), (10, tv (n4 1)), (7, tv (n4 1))] [own rI 3 t33s (n4 1)] a w := (hst.pick [0, 2, 12, 14, 15])
    refine hK11 _ _ ?_
    clear hK11 K11
    refine wp_seq_k (fun K13 hK13 => ?_)
    refine wp_reg mixed [] hst (fun _ => .p rfl (op_move (.t 4 rfl)) <| .p rfl (op_assign (.t 0 rfl)) <| .nil _) (by kernel_rfl) (fun n14 a w hst => ?_)
    replace hst : St M w0 35 [(34, tv (n4 1)), (6, tv (n4 1)), (22, tv (n4 1)), (24, tv (n4 1)), (11, tv (n4 1)), (10, tv (n4 1)), (7, tv (n4 1))] [own rI 3 t33s (n4 1)] a w := (hst.pick [0, 1, 2, 3, 4, 5, 6])
    refine hK13 _ _ ?_
    clear hK13 K13
    refine wp_ret ?_
    obtain rfl := Option.some.inj h
    exact ret_st (n4 1) hst rfl (.tmp (.t 1 rfl) .nil) (fun g hg => (by cases hg; exact ⟨0, rfl⟩)) rfl


end Go.Proofs.Ytjniiejgccdhiaa
