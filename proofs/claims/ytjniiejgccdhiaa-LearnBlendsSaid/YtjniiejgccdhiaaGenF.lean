/- Go functions as Lean functions, and the proofs that they compute them, written by a program. No condition. -/
import Derived.Test.YtjniiejgccdhiaaGenE
namespace Go.Proofs.Ytjniiejgccdhiaa
open Go.Sim

/- diorama/dioramalaw27.LearnWeights -/
noncomputable def fLearnWeights (l_ : (List Int)) (n_ : Int) (smooth_ : Int) (at_ : Int) (by_ : Int) (times_ : Int) : Option (Bool) := (fAround n_ (12:Int)).bind fun t30 => (fMade27 l_ (IntKind.i64.wrap ((1:Int) + t30)) (30:Int)).bind fun t32 => (fodd t32 at_ by_).bind fun t37 => (mk (3:Int) (0:Int)).bind fun t38 => (mk (13:Int) (0:Int)).bind fun t39 => (fTake l_ (14:Int)).bind fun t41 => (fAround smooth_ (5:Int)).bind fun t44 => (tailrec (fun (s12 : Int) => ((if (decide (s12 < ([t32, t37, t38, [], t39, t41].length : Int))) = true then (tailrec (fun (s99 : Int) => ((if (decide (s99 < ([t44, smooth_, (1024:Int), (1025:Int)].length : Int))) = true then (idx [t32, t37, t38, [], t39, t41] s12).bind fun t62 => (idx [t44, smooth_, (1024:Int), (1025:Int)] s99).bind fun t66 => (fWeights t62 t66).bind fun t68 => (idx [t32, t37, t38, [], t39, t41] s12).bind fun t74 => (idx [t44, smooth_, (1024:Int), (1025:Int)] s99).bind fun t78 => (fWeightsR t74 t78).bind fun t80 => (opt ((t68.2 != t80.2) == false) (fSameInts t68.1 t80.1) default).bind fun t89 => (opt ((((t68.2 != t80.2) || (!t89)) == false) && ((t68.2 == (0:Int)) == true)) (fRightR t68.1) default).bind fun t97 => (if (((t68.2 != t80.2) || (!t89)) || ((t68.2 == (0:Int)) && (!t97))) = true then (some (.inr (.inr false))) else (some (.inl (IntKind.i64.wrap (s99 + (1:Int)))))) else (some (.inr (.inl ())))) : Option ((Int) ⊕ ((Unit) ⊕ (Bool))))) (0:Int)).bind fun (e100 : (Unit) ⊕ (Bool)) => (match e100 with | .inl p116 => (some (.inl (IntKind.i64.wrap (s12 + (1:Int))))) | .inr p117 => (some (.inr (.inr p117)))) else (some (.inr (.inl ())))) : Option ((Int) ⊕ ((Unit) ⊕ (Bool))))) (0:Int)).bind fun (e13 : (Unit) ⊕ (Bool)) => (match e13 with | .inl p57 => (tailrec (fun (s65 : Int × List Int) => ((if (decide (s65.1 < (t32.length : Int))) = true then (idx t32 s65.1).bind fun t110 => (fAround times_ (50:Int)).bind fun t113 => (rm (s65.2.length + [(IntKind.i64.wrap (t110 * (IntKind.i64.wrap ((1:Int) + t113))))].length)).bind fun _ => (some (.inl ((IntKind.i64.wrap (s65.1 + (1:Int))), (s65.2 ++ [(IntKind.i64.wrap (t110 * (IntKind.i64.wrap ((1:Int) + t113))))])))) else (some (.inr s65.2))) : Option ((Int × List Int) ⊕ ((List Int))))) ((0:Int), ([] : List Int))).bind fun (p75 : (List Int)) => (fWeights t32 (0:Int)).bind fun t120 => (fWeights p75 (0:Int)).bind fun t125 => (opt (((t120.2 == (0:Int)) && (t125.2 == (0:Int))) == true) (fSameInts t120.1 t125.1) default).bind fun t137 => (opt ((((t120.2 == (0:Int)) && (t125.2 == (0:Int))) && t137) == true) (flives27) default).bind fun t140 => (some ((((t120.2 == (0:Int)) && (t125.2 == (0:Int))) && t137) && t140)) | .inr p58 => (some p58))
set_option maxRecDepth 100000 in
theorem LearnWeights_ok {l_ : (List Int)} {n_ : Int} {smooth_ : Int} {at_ : Int} {by_ : Int} {times_ : Int} {r : Bool} (h : fLearnWeights l_ n_ smooth_ at_ by_ times_ = some r) : FnOk Try.prog 3 [tsl rI l_, tv (.int .i64 n_), tv (.int .i64 smooth_), tv (.int .i64 at_), tv (.int .i64 by_), tv (.int .i64 times_)] none (fun _ => tv (.bool r)) := by
  unfold fLearnWeights at h
  refine FnOk.enter Try.func3 rfl Try.ntmps3 (Nat.le_of_ble_eq_true rfl) (fun M w0 a hst => ?_)
  replace hst : St M w0 142 [(0, tsl rI l_), (1, tv (.int .i64 n_)), (2, tv (.int .i64 smooth_)), (3, tv (.int .i64 at_)), (4, tv (.int .i64 by_)), (5, tv (.int .i64 times_))] [] a w0 := hst
  refine wp_seq_k (fun K1 hK1 => ?_)
  refine wp_reg mixed [] hst (fun _ => .p rfl (op_assign .k) <| .nil _) (by kernel_rfl) (fun n2 a w hst => ?_)
  replace hst : St M w0 142 [(0, tsl rI l_), (1, tv (.int .i64 n_)), (2, tv (.int .i64 smooth_)), (3, tv (.int .i64 at_)), (4, tv (.int .i64 by_)), (5, tv (.int .i64 times_))] [] a w := (hst.pick [1, 2, 3, 4, 5, 6])
  refine hK1 _ _ ?_
  clear hK1 K1
  refine wp_seq_k (fun K3 hK3 => ?_)
  obtain ⟨t30, ht30, h⟩ := bind_some h
  obtain ⟨t32, ht32, h⟩ := bind_some h
  refine wp_reg mixed [] hst (fun _ => .p rfl (op_move (.t 0 rfl)) <| .p rfl (op_move (.t 2 rfl)) <| .p rfl (op_callF call13 (Around_ok ht30) (.cons (.of (.t 0 rfl)) <| .cons (.of .k) <| .nil)) <| .p rfl (op_add .k (.t 0 rfl)) <| .p rfl (op_callF call12 ((Made27_ok ht32).ro ro_self) (.cons (.of (.t 3 rfl)) <| .cons (.of (.t 0 rfl)) <| .cons (.of .k) <| .nil)) <| .p rfl (op_assign (.t 0 rfl)) <| .nil _) (by kernel_rfl) (fun n4 a w hst => ?_)
  replace hst : St M w0 142 [(13, tsl rI t32), (0, tsl rI l_), (2, tv (.int .i64 smooth_)), (3, tv (.int .i64 at_)), (4, tv (.int .i64 by_)), (5, tv (.int .i64 times_))] [] a w := (hst.pick [5, 6, 8, 9, 10, 11])
  refine hK3 _ _ ?_
  clear hK3 K3
  refine wp_seq_k (fun K5 hK5 => ?_)
  obtain ⟨t37, ht37, h⟩ := bind_some h
  obtain ⟨t38, ht38, h⟩ := bind_some h
  obtain ⟨t39, ht39, h⟩ := bind_some h
  obtain ⟨t41, ht41, h⟩ := bind_some h
  refine wp_reg mixed [] hst (fun _ => .p rfl (op_move (.t 0 rfl)) <| .p rfl (op_move (.t 1 rfl)) <| .p rfl (op_move (.t 5 rfl)) <| .p rfl (op_move (.t 7 rfl)) <| .p rfl (op_callF call14 ((odd_ok ht37).ro ro_self) (.cons (.of (.t 2 rfl)) <| .cons (.of (.t 1 rfl)) <| .cons (.of (.t 0 rfl)) <| .nil)) <| .p rfl (op_make (R := rI) Try.underlying22 tok3 zok3 (Nat.le_of_ble_eq_true rfl) .k .k ht38) <| .p rfl (op_make (R := rI) Try.underlying22 tok3 zok3 (Nat.le_of_ble_eq_true rfl) .k .k ht39) <| .p rfl (op_move (.t 8 rfl)) <| .p rfl (op_callF call15 ((Take_ok ht41).ro ro_self) (.cons (.of (.t 0 rfl)) <| .cons (.of .k) <| .nil)) <| .p rfl (op_buildSl (R := (rSl rI)) (us := [t32, t37, t38, [], t39, t41]) Try.underlying26 tok22 (.cons (.t 8 rfl) <| .cons (.t 4 rfl) <| .cons (.t 3 rfl) <| .cons .nilsl <| .cons (.t 2 rfl) <| .cons (.t 0 rfl) <| .nil _) rfl (Nat.le_of_ble_eq_true rfl)) <| .p rfl (op_assign (.t 0 rfl)) <| .nil _) (by kernel_rfl) (fun n6 a w hst => ?_)
  replace hst : St M w0 142 [(14, tsl (rSl rI) [t32, t37, t38, [], t39, t41]), (13, tsl rI t32), (2, tv (.int .i64 smooth_)), (5, tv (.int .i64 times_))] [] a w := (hst.pick [10, 11, 13, 16])
  refine hK5 _ _ ?_
  clear hK5 K5
  refine wp_seq_k (fun K7 hK7 => ?_)
  obtain ⟨t44, ht44, h⟩ := bind_some h
  refine wp_reg mixed [] hst (fun _ => .p rfl (op_move (.t 2 rfl)) <| .p rfl (op_callF call13 (Around_ok ht44) (.cons (.of (.t 0 rfl)) <| .cons (.of .k) <| .nil)) <| .p rfl (op_move (.t 4 rfl)) <| .p rfl (op_buildSl (R := rI) (us := [t44, smooth_, (1024:Int), (1025:Int)]) Try.underlying22 tok3 (.cons (.t 1 rfl) <| .cons (.t 0 rfl) <| .cons .k <| .cons .k <| .nil _) rfl (Nat.le_of_ble_eq_true rfl)) <| .p rfl (op_assign (.t 0 rfl)) <| .nil _) (by kernel_rfl) (fun n8 a w hst => ?_)
  replace hst : St M w0 142 [(15, tsl rI [t44, smooth_, (1024:Int), (1025:Int)]), (14, tsl (rSl rI) [t32, t37, t38, [], t39, t41]), (13, tsl rI t32), (5, tv (.int .i64 times_))] [] a w := (hst.pick [4, 5, 6, 8])
  refine hK7 _ _ ?_
  clear hK7 K7
  refine wp_seq_k (fun K9 hK9 => ?_)
  refine wp_seq_k (fun K10 hK10 => ?_)
  refine wp_reg mixed [] hst (fun _ => .p rfl (op_assign .k) <| .nil _) (by kernel_rfl) (fun n11 a w hst => ?_)
  replace hst : St M w0 142 [(16, tv (.int .i64 (0:Int))), (15, tsl rI [t44, smooth_, (1024:Int), (1025:Int)]), (14, tsl (rSl rI) [t32, t37, t38, [], t39, t41]), (13, tsl rI t32), (5, tv (.int .i64 times_))] [] a w := (hst.pick [0, 1, 2, 3, 4])
  refine hK10 _ _ ?_
  clear hK10 K10
  obtain ⟨e13, he13, h⟩ := bind_some h
  have hJp57 : ∀ (p57 : Unit) a w, (.inl p57) = e13 → St M w0 142 [(13, tsl rI t32), (5, tv (.int .i64 times_))] [] a w → K9 a w := by
    intro p57 a w he hst
    subst he
    simp only at h
    refine hK9 _ _ ?_
    clear hK9 K9
    refine wp_seq_k (fun K59 hK59 => ?_)
    refine wp_reg mixed [] hst (fun _ => .p rfl (op_assign .k) <| .nil _) (by kernel_rfl) (fun n60 a w hst => ?_)
    replace hst : St M w0 142 [(22, tv (.slice none 0 0)), (13, tsl rI t32), (5, tv (.int .i64 times_))] [] a w := (hst.pick [0, 1, 2])
    replace hst := hst.nil rI 3
    refine hK59 _ _ ?_
    clear hK59 K59
    refine wp_seq_k (fun K62 hK62 => ?_)
    refine wp_seq_k (fun K63 hK63 => ?_)
    refine wp_reg mixed [] hst (fun _ => .p rfl (op_assign .k) <| .nil _) (by kernel_rfl) (fun n64 a w hst => ?_)
    replace hst : St M w0 142 [(23, tv (.int .i64 (0:Int))), (22, tv (.slice none 0 0)), (13, tsl rI t32), (5, tv (.int .i64 times_))] [own rI 3 ([] : List Int) (.slice none 0 0)] a w := (hst.pick [0, 1, 2, 3])
    refine hK63 _ _ ?_
    clear hK63 K63
    obtain ⟨e67, he67, h⟩ := bind_some h
    have hJp75 : ∀ (p75 : List Int) (v76 : Value) a w, p75 = e67 → St M w0 142 [(22, tv v76), (13, tsl rI t32)] [own rI 3 p75 v76] a w → K62 a w := by
      intro p75 v76 a w he hst
      subst he
      refine hK62 _ _ ?_
      clear hK62 K62
      refine wp_seq_k (fun K77 hK77 => ?_)
      obtain ⟨t120, ht120, h⟩ := bind_some h
      refine wp_reg mixed [] hst (fun _ => .p rfl (op_move (.t 1 rfl)) <| .p rfl (op_callF call16 ((Weights_ok ht120).ro ro_tup0) (.cons (.of (.t 0 rfl)) <| .cons (.of .k) <| .nil)) <| .p rfl (op_move (.t 0 rfl)) <| .p rfl (op_extract (.t 0 rfl) rfl) <| .p rfl (op_extract (.t 1 rfl) rfl) <| .p rfl (op_assign (.t 1 rfl)) <| .p rfl (op_assign (.t 1 rfl)) <| .nil _) (by kernel_rfl) (fun n78 a w hst => ?_)
      replace hst : St M w0 142 [(24, tsl rI t120.1), (25, tv (.int .i64 t120.2)), (22, tv v76)] [own rI 3 p75 v76] a w := (hst.pick [5, 6, 7])
      refine hK77 _ _ ?_
      clear hK77 K77
      refine wp_seq_k (fun K79 hK79 => ?_)
      obtain ⟨t125, ht125, h⟩ := bind_some h
      refine wp_reg mixed [(1, fun v => own rI 3 t125.1 v)] hst (fun _ => .p rfl (op_move (.t 2 rfl)) <| .m 1 [0] rfl rfl rfl (op_callFU [own rI 3 p75 v76] call16 (Weights_ok ht125) (.cons (.own (.t 0 rfl) (.head _)) <| .cons (.of .k) <| .nil) (fun _ => (flat_tup (flat_cons flat_tv (flat_cons flat_tv flat_nil)))) (fun h hh x => (by cases hh; exact flat_own (by intro x T h; simp at h; (first | (subst h; exact flat_tv) | (rcases h with h | h | h <;> subst h <;> exact flat_tv)))))) <| .pd (f := fun v => ttup [tv v, tv (.int .i64 t125.2)]) 1 rfl (op_move (.t 0 rfl)) <| .pd (f := fun v => tv v) 1 rfl (op_extract (.t 0 rfl) rfl) <| .p rfl (op_extract (.t 1 rfl) rfl) <| .pd (f := fun v => tv v) 1 rfl (op_assign (.t 1 rfl)) <| .p rfl (op_assign (.t 1 rfl)) <| .nil _) (by kernel_rfl) (fun n80 a w hst => ?_)
      replace hst : St M w0 142 [(124, tv v76), (126, tv (n80 1)), (26, tv (n80 1)), (27, tv (.int .i64 t125.2)), (24, tsl rI t120.1), (25, tv (.int .i64 t120.2)), (22, tv v76)] [own rI 3 p75 v76, own rI 3 t125.1 (n80 1)] a w := (hst.pick [0, 3, 5, 6, 7, 8, 9])
      refine hK79 _ _ ?_
      clear hK79 K79
      refine wp_seq_k (fun K82 hK82 => ?_)
      obtain ⟨t137, ht137, h⟩ := bind_some h
      obtain ⟨t140, ht140, h⟩ := bind_some h
      refine wp_reg mixed [] hst (fun _ => .p rfl (op_move (.t 5 rfl)) <| .p rfl (op_eql (.t 0 rfl) .k) <| .p rfl (op_move (.t 0 rfl)) <| .g rfl rfl (.b 0 rfl) (fun _ => op_move (.t 6 rfl)) <| .g rfl rfl (.b 1 rfl) (fun hc => op_eql (.cond (.t 0 rfl) hc) .k) <| .p rfl (op_and (.t 2 rfl) (fun hp => (.cond (.t 0 rfl) (beqT hp)))) <| .p rfl (op_move (.t 0 rfl)) <| .g rfl rfl (.b 0 rfl) (fun _ => op_move (.t 11 rfl)) <| .g rfl rfl (.b 1 rfl) (fun _ => op_move (.t 10 rfl)) <| .gu [1] rfl rfl rfl (.b 2 rfl) (fun hc => op_callFU [own rI 3 t125.1 (n80 1)] call18 (SameInts_ok (opt_t ht137 hc)) (.cons (.of (.cond (.t 1 rfl) hc)) <| .cons (.own (.cond (.t 0 rfl) hc) (.head _)) <| .nil) (fun _ => flat_tv) (fun h hh => (by cases hh))) <| .p rfl (op_and (.t 3 rfl) (fun hp => (.cond (.t 0 rfl) (beqT hp)))) <| .p rfl (op_move (.t 0 rfl)) <| .g rfl rfl (.b 0 rfl) (fun hc => op_callF call20 (lives27_ok (opt_t ht140 hc)) (.nil)) <| .p rfl (op_and (.t 1 rfl) (fun hp => (.cond (.t 0 rfl) (beqT hp)))) <| .p rfl (op_assign (.t 0 rfl)) <| .nil _) (by kernel_rfl) (fun n83 a w hst => ?_)
      replace hst : St M w0 142 [(12, tv (.bool ((((t120.2 == (0:Int)) && (t125.2 == (0:Int))) && t137) && t140))), (124, tv v76), (126, tv (n80 1)), (26, tv (n80 1)), (22, tv v76)] [own rI 3 p75 v76, own rI 3 t125.1 (n80 1)] a w := (hst.pick [14, 15, 16, 17, 21])
      refine hK82 _ _ ?_
      clear hK82 K82
      refine wp_ret ?_
      obtain rfl := Option.some.inj h
      exact ret_st undef hst rfl (.tmp (.t 0 rfl) .nil) (fun g hg => (by cases hg)) rfl
    refine wp_block ?_
    refine wp_loopK _ (fun (s65 : Int × List Int) a w => ∃ v66 : Value, St M w0 142 [(23, tv (.int .i64 s65.1)), (22, tv v66), (13, tsl rI t32), (5, tv (.int .i64 times_))] [own rI 3 s65.2 v66] a w) _ _ he67 ⟨(.slice none 0 0), hst.pick [0, 1, 2, 3]⟩ ?_
    clear h
    intro s65 o a w K84 hI h ho hK84
    obtain ⟨v66, hst⟩ := hI
    refine wp_seq_k (fun K85 hK85 => ?_)
    refine wp_seq_k (fun K86 hK86 => ?_)
    refine wp_reg mixed [] hst (fun _ => .p rfl (op_move (.t 0 rfl)) <| .p rfl (op_move (.t 3 rfl)) <| .p rfl (op_len Try.underlying22 (.t 0 rfl)) <| .p rfl (op_lss (.t 2 rfl) (.t 0 rfl)) <| .nil _) (by kernel_rfl) (fun n87 a w hst => ?_)
    replace hst : St M w0 142 [(104, tv (.bool (decide (s65.1 < (t32.length : Int))))), (23, tv (.int .i64 s65.1)), (22, tv v66), (13, tsl rI t32), (5, tv (.int .i64 times_))] [own rI 3 s65.2 v66] a w := (hst.pick [3, 4, 5, 6, 7])
    refine hK86 _ _ ?_
    clear hK86 K86
    refine wp_test 0 hst rfl (fun b91 => ?_) (fun b91 => ?_)
    · replace h := ite_t b91 h
      refine wp_skip ?_
      refine hK85 _ _ ?_
      clear hK85 K85
      refine wp_seq_k (fun K88 hK88 => ?_)
      refine wp_block ?_
      obtain ⟨t110, ht110, h⟩ := bind_some h
      obtain ⟨t113, ht113, h⟩ := bind_some h
      obtain ⟨u117, hu117, h⟩ := bind_some h
      refine wp_reg mixed [(1, fun v => own rI 3 (s65.2 ++ [(IntKind.i64.wrap (t110 * (IntKind.i64.wrap ((1:Int) + t113))))]) v)] hst (fun _ => .p rfl (op_move (.t 2 rfl)) <| .p rfl (op_move (.t 4 rfl)) <| .p rfl (op_move (.t 3 rfl)) <| .p rfl (op_index Try.underlying22 tok3 (.t 1 rfl) (.t 0 rfl) ht110) <| .p rfl (op_load tok3 (.t 0 rfl)) <| .p rfl (op_move (.t 9 rfl)) <| .p rfl (op_callF call13 (Around_ok ht113) (.cons (.of (.t 0 rfl)) <| .cons (.of .k) <| .nil)) <| .p rfl (op_add .k (.t 0 rfl)) <| .p rfl (op_mul (.t 3 rfl) (.t 0 rfl)) <| .p rfl (op_buildSl (R := rI) (us := [(IntKind.i64.wrap (t110 * (IntKind.i64.wrap ((1:Int) + t113))))]) Try.underlying22 tok3 (.cons (.t 0 rfl) <| .nil _) rfl (Nat.le_of_ble_eq_true rfl)) <| .e 0 1 [] rfl rfl rfl rfl (op_append (R := rI) Try.underlying22 tok3 (Nat.le_of_ble_eq_true rfl) (.t 9 rfl) (.t 0 rfl) hu117) <| .pd (f := fun v => tv v) 1 rfl (op_assign (.t 0 rfl)) <| .nil _) (by kernel_rfl) (fun n89 a w hst => ?_)
      replace hst : St M w0 142 [(117, tv (n89 1)), (22, tv (n89 1)), (23, tv (.int .i64 s65.1)), (13, tsl rI t32), (5, tv (.int .i64 times_))] [own rI 3 (s65.2 ++ [(IntKind.i64.wrap (t110 * (IntKind.i64.wrap ((1:Int) + t113))))]) (n89 1)] a w := (hst.pick [10, 11, 13, 14, 15])
      refine hK88 _ _ ?_
      clear hK88 K88
      refine wp_reg mixed [] hst (fun _ => .p rfl (op_move (.t 2 rfl)) <| .p rfl (op_add (.t 0 rfl) .k) <| .p rfl (op_assign (.t 0 rfl)) <| .nil _) (by kernel_rfl) (fun n90 a w hst => ?_)
      replace hst : St M w0 142 [(23, tv (.int .i64 (IntKind.i64.wrap (s65.1 + (1:Int))))), (117, tv (n89 1)), (22, tv (n89 1)), (13, tsl rI t32), (5, tv (.int .i64 times_))] [own rI 3 (s65.2 ++ [(IntKind.i64.wrap (t110 * (IntKind.i64.wrap ((1:Int) + t113))))]) (n89 1)] a w := (hst.pick [2, 3, 4, 5, 6])
      exact hK84 _ _ _ (Option.some.inj h).symm ⟨(n89 1), hst.pick [0, 2, 3, 4]⟩
    · replace h := ite_f b91 h
      refine wp_exit ?_
      exact hJp75 _ v66 _ _ (ho _ (Option.some.inj h).symm) (hst.pick [2, 3])
  have hJp58 : ∀ (p58 : Bool) a w, (.inr p58) = e13 → St M w0 142 [(12, tv (.bool p58))] [] a w → Ret Try.prog Try.f3 M w0 none (fun _ => tv (.bool r)) .ret a w := by
    intro p58 a w he hst
    subst he
    simp only at h
    obtain rfl := Option.some.inj h
    exact ret_st undef hst rfl (.tmp (.t 0 rfl) .nil) (fun g hg => (by cases hg)) rfl
  refine wp_block ?_
  refine wp_loopK _ (fun (s12 : Int) a w => St M w0 142 [(16, tv (.int .i64 s12)), (15, tsl rI [t44, smooth_, (1024:Int), (1025:Int)]), (14, tsl (rSl rI) [t32, t37, t38, [], t39, t41]), (13, tsl rI t32), (5, tv (.int .i64 times_))] [] a w) _ _ he13 (hst.pick [0, 1, 2, 3, 4]) ?_
  clear h
  intro s12 o a w K92 hI h ho hK92
  have hst := hI
  clear hI
  refine wp_seq_k (fun K93 hK93 => ?_)
  refine wp_seq_k (fun K94 hK94 => ?_)
  refine wp_reg mixed [] hst (fun _ => .p rfl (op_move (.t 0 rfl)) <| .p rfl (op_move (.t 3 rfl)) <| .p rfl (op_len Try.underlying26 (.t 0 rfl)) <| .p rfl (op_lss (.t 2 rfl) (.t 0 rfl)) <| .nil _) (by kernel_rfl) (fun n95 a w hst => ?_)
  replace hst : St M w0 142 [(50, tv (.bool (decide (s12 < ([t32, t37, t38, [], t39, t41].length : Int))))), (16, tv (.int .i64 s12)), (15, tsl rI [t44, smooth_, (1024:Int), (1025:Int)]), (14, tsl (rSl rI) [t32, t37, t38, [], t39, t41]), (13, tsl rI t32), (5, tv (.int .i64 times_))] [] a w := (hst.pick [3, 4, 5, 6, 7, 8])
  refine hK94 _ _ ?_
  clear hK94 K94
  refine wp_test 0 hst rfl (fun b135 => ?_) (fun b135 => ?_)
  · replace h := ite_t b135 h
    refine wp_skip ?_
    refine hK93 _ _ ?_
    clear hK93 K93
    refine wp_seq_k (fun K96 hK96 => ?_)
    refine wp_block ?_
    refine wp_seq_k (fun K97 hK97 => ?_)
    refine wp_reg mixed [] hst (fun _ => .p rfl (op_assign .k) <| .nil _) (by kernel_rfl) (fun n98 a w hst => ?_)
    replace hst : St M w0 142 [(17, tv (.int .i64 (0:Int))), (16, tv (.int .i64 s12)), (15, tsl rI [t44, smooth_, (1024:Int), (1025:Int)]), (14, tsl (rSl rI) [t32, t37, t38, [], t39, t41]), (13, tsl rI t32), (5, tv (.int .i64 times_))] [] a w := (hst.pick [0, 2, 3, 4, 5, 6])
    refine hK97 _ _ ?_
    clear hK97 K97
    obtain ⟨e100, he100, h⟩ := bind_some h
    have hJp116 : ∀ (p116 : Unit) a w, (.inl p116) = e100 → St M w0 142 [(16, tv (.int .i64 s12)), (15, tsl rI [t44, smooth_, (1024:Int), (1025:Int)]), (14, tsl (rSl rI) [t32, t37, t38, [], t39, t41]), (13, tsl rI t32), (5, tv (.int .i64 times_))] [] a w → K96 a w := by
      intro p116 a w he hst
      subst he
      simp only at h
      refine hK96 _ _ ?_
      clear hK96 K96
      refine wp_reg mixed [] hst (fun _ => .p rfl (op_move (.t 0 rfl)) <| .p rfl (op_add (.t 0 rfl) .k) <| .p rfl (op_assign (.t 0 rfl)) <| .nil _) (by kernel_rfl) (fun n118 a w hst => ?_)
      replace hst : St M w0 142 [(16, tv (.int .i64 (IntKind.i64.wrap (s12 + (1:Int))))), (15, tsl rI [t44, smooth_, (1024:Int), (1025:Int)]), (14, tsl (rSl rI) [t32, t37, t38, [], t39, t41]), (13, tsl rI t32), (5, tv (.int .i64 times_))] [] a w := (hst.pick [2, 3, 4, 5, 6])
      exact hK92 _ _ _ (Option.some.inj h).symm (hst.pick [0, 1, 2, 3, 4])
    have hJp117 : ∀ (p117 : Bool) a w, (.inr p117) = e100 → St M w0 142 [(12, tv (.bool p117))] [] a w → Ret Try.prog Try.f3 M w0 none (fun _ => tv (.bool r)) .ret a w := by
      intro p117 a w he hst
      subst he
      simp only at h
      exact hJp58 _ _ _ (ho _ (Option.some.inj h).symm) (hst.pick [0])
    refine wp_block ?_
    refine wp_loopK _ (fun (s99 : Int) a w => St M w0 142 [(17, tv (.int .i64 s99)), (16, tv (.int .i64 s12)), (15, tsl rI [t44, smooth_, (1024:Int), (1025:Int)]), (14, tsl (rSl rI) [t32, t37, t38, [], t39, t41]), (13, tsl rI t32), (5, tv (.int .i64 times_))] [] a w) _ _ he100 (hst.pick [0, 1, 2, 3, 4, 5]) ?_
    clear h
    intro s99 o a w K119 hI h ho hK119
    have hst := hI
    clear hI
    refine wp_seq_k (fun K120 hK120 => ?_)
    refine wp_seq_k (fun K121 hK121 => ?_)
    refine wp_reg mixed [] hst (fun _ => .p rfl (op_move (.t 0 rfl)) <| .p rfl (op_move (.t 3 rfl)) <| .p rfl (op_len Try.underlying22 (.t 0 rfl)) <| .p rfl (op_lss (.t 2 rfl) (.t 0 rfl)) <| .nil _) (by kernel_rfl) (fun n122 a w hst => ?_)
    replace hst : St M w0 142 [(56, tv (.bool (decide (s99 < ([t44, smooth_, (1024:Int), (1025:Int)].length : Int))))), (17, tv (.int .i64 s99)), (16, tv (.int .i64 s12)), (15, tsl rI [t44, smooth_, (1024:Int), (1025:Int)]), (14, tsl (rSl rI) [t32, t37, t38, [], t39, t41]), (13, tsl rI t32), (5, tv (.int .i64 times_))] [] a w := (hst.pick [3, 4, 5, 6, 7, 8, 9])
    refine hK121 _ _ ?_
    clear hK121 K121
    refine wp_test 0 hst rfl (fun b134 => ?_) (fun b134 => ?_)
    · replace h := ite_t b134 h
      refine wp_skip ?_
      refine hK120 _ _ ?_
      clear hK120 K120
      refine wp_seq_k (fun K123 hK123 => ?_)
      refine wp_block ?_
      refine wp_seq_k (fun K124 hK124 => ?_)
      obtain ⟨t62, ht62, h⟩ := bind_some h
      obtain ⟨t66, ht66, h⟩ := bind_some h
      obtain ⟨t68, ht68, h⟩ := bind_some h
      refine wp_reg mixed [] hst (fun _ => .p rfl (op_move (.t 4 rfl)) <| .p rfl (op_move (.t 3 rfl)) <| .p rfl (op_index Try.underlying26 tok22 (.t 1 rfl) (.t 0 rfl) ht62) <| .p rfl (op_load tok22 (.t 0 rfl)) <| .p rfl (op_move (.t 7 rfl)) <| .p rfl (op_move (.t 6 rfl)) <| .p rfl (op_index Try.underlying22 tok3 (.t 1 rfl) (.t 0 rfl) ht66) <| .p rfl (op_load tok3 (.t 0 rfl)) <| .p rfl (op_callF call16 ((Weights_ok ht68).ro ro_tup0) (.cons (.of (.t 4 rfl)) <| .cons (.of (.t 0 rfl)) <| .nil)) <| .p rfl (op_move (.t 0 rfl)) <| .p rfl (op_extract (.t 0 rfl) rfl) <| .p rfl (op_extract (.t 1 rfl) rfl) <| .p rfl (op_assign (.t 1 rfl)) <| .p rfl (op_assign (.t 1 rfl)) <| .nil _) (by kernel_rfl) (fun n125 a w hst => ?_)
      replace hst : St M w0 142 [(18, tsl rI t68.1), (19, tv (.int .i64 t68.2)), (17, tv (.int .i64 s99)), (16, tv (.int .i64 s12)), (15, tsl rI [t44, smooth_, (1024:Int), (1025:Int)]), (14, tsl (rSl rI) [t32, t37, t38, [], t39, t41]), (13, tsl rI t32), (5, tv (.int .i64 times_))] [] a w := (hst.pick [12, 13, 15, 16, 17, 18, 19, 20])
      refine hK124 _ _ ?_
      clear hK124 K124
      refine wp_seq_k (fun K126 hK126 => ?_)
      obtain ⟨t74, ht74, h⟩ := bind_some h
      obtain ⟨t78, ht78, h⟩ := bind_some h
      obtain ⟨t80, ht80, h⟩ := bind_some h
      refine wp_reg mixed [] hst (fun _ => .p rfl (op_move (.t 5 rfl)) <| .p rfl (op_move (.t 4 rfl)) <| .p rfl (op_index Try.underlying26 tok22 (.t 1 rfl) (.t 0 rfl) ht74) <| .p rfl (op_load tok22 (.t 0 rfl)) <| .p rfl (op_move (.t 8 rfl)) <| .p rfl (op_move (.t 7 rfl)) <| .p rfl (op_index Try.underlying22 tok3 (.t 1 rfl) (.t 0 rfl) ht78) <| .p rfl (op_load tok3 (.t 0 rfl)) <| .p rfl (op_callF call17 ((WeightsR_ok ht80).ro ro_tup0) (.cons (.of (.t 4 rfl)) <| .cons (.of (.t 0 rfl)) <| .nil)) <| .p rfl (op_move (.t 0 rfl)) <| .p rfl (op_extract (.t 0 rfl) rfl) <| .p rfl (op_extract (.t 1 rfl) rfl) <| .p rfl (op_assign (.t 1 rfl)) <| .p rfl (op_assign (.t 1 rfl)) <| .nil _) (by kernel_rfl) (fun n127 a w hst => ?_)
      replace hst : St M w0 142 [(20, tsl rI t80.1), (21, tv (.int .i64 t80.2)), (18, tsl rI t68.1), (19, tv (.int .i64 t68.2)), (17, tv (.int .i64 s99)), (16, tv (.int .i64 s12)), (15, tsl rI [t44, smooth_, (1024:Int), (1025:Int)]), (14, tsl (rSl rI) [t32, t37, t38, [], t39, t41]), (13, tsl rI t32), (5, tv (.int .i64 times_))] [] a w := (hst.pick [12, 13, 14, 15, 16, 17, 18, 19, 20, 21])
      refine hK126 _ _ ?_
      clear hK126 K126
      refine wp_seq_k (fun K128 hK128 => ?_)
      obtain ⟨t89, ht89, h⟩ := bind_some h
      obtain ⟨t97, ht97, h⟩ := bind_some h
      refine wp_reg mixed [] hst (fun _ => .p rfl (op_move (.t 3 rfl)) <| .p rfl (op_move (.t 2 rfl)) <| .p rfl (op_neq (.t 1 rfl) (.t 0 rfl)) <| .p rfl (op_move (.t 0 rfl)) <| .g rfl rfl (.b 0 rfl) (fun _ => op_move (.t 6 rfl)) <| .g rfl rfl (.b 1 rfl) (fun _ => op_move (.t 5 rfl)) <| .g rfl rfl (.b 2 rfl) (fun hc => op_callF call18 (SameInts_ok (opt_t ht89 hc)) (.cons (.of (.cond (.t 1 rfl) hc)) <| .cons (.of (.cond (.t 0 rfl) hc)) <| .nil)) <| .g rfl rfl (.b 3 rfl) (fun hc => op_not (.cond (.t 0 rfl) hc)) <| .p rfl (op_or (.t 4 rfl) (fun hp => (.cond (.t 0 rfl) (beqF hp)))) <| .p rfl (op_move (.t 0 rfl)) <| .g rfl rfl (.b 0 rfl) (fun _ => op_move (.t 13 rfl)) <| .g rfl rfl (.b 1 rfl) (fun hc => op_eql (.cond (.t 0 rfl) hc) .k) <| .g rfl rfl (.b 2 rfl) (fun hc => op_move (.cond (.t 0 rfl) hc)) <| .g rfl rfl (.c 0 rfl) (fun _ => op_move (.t 15 rfl)) <| .g rfl rfl (.c 1 rfl) (fun hc => op_callF call19 (RightR_ok (opt_t ht97 hc)) (.cons (.of (.cond (.t 0 rfl) hc)) <| .nil)) <| .g rfl rfl (.c 2 rfl) (fun hc => op_not (.cond (.t 0 rfl) hc)) <| .g rfl rfl (.b 6 rfl) (fun hc => op_and (.cond (.t 3 rfl) hc) (fun hp => (.cond (.t 0 rfl) (band_mk hc (beqT hp))))) <| .p rfl (op_or (.t 7 rfl) (fun hp => (.cond (.t 0 rfl) (beqF hp)))) <| .nil _) (by kernel_rfl) (fun n129 a w hst => ?_)
      replace hst : St M w0 142 [(100, tv (.bool (((t68.2 != t80.2) || (!t89)) || ((t68.2 == (0:Int)) && (!t97))))), (17, tv (.int .i64 s99)), (16, tv (.int .i64 s12)), (15, tsl rI [t44, smooth_, (1024:Int), (1025:Int)]), (14, tsl (rSl rI) [t32, t37, t38, [], t39, t41]), (13, tsl rI t32), (5, tv (.int .i64 times_))] [] a w := (hst.pick [17, 22, 23, 24, 25, 26, 27])
      refine hK128 _ _ ?_
      clear hK128 K128
      refine wp_test 0 hst rfl (fun b133 => ?_) (fun b133 => ?_)
      · replace h := ite_t b133 h
        refine wp_seq_k (fun K130 hK130 => ?_)
        refine wp_reg mixed [] hst (fun _ => .p rfl (op_assign .k) <| .nil _) (by kernel_rfl) (fun n131 a w hst => ?_)
        replace hst : St M w0 142 [(12, tv (.bool false))] [] a w := (hst.pick [0])
        refine hK130 _ _ ?_
        clear hK130 K130
        refine wp_ret ?_
        exact hJp117 _ _ _ (ho _ (Option.some.inj h).symm) (hst.pick [0])
      · replace h := ite_f b133 h
        refine wp_skip ?_
        refine hK123 _ _ ?_
        clear hK123 K123
        refine wp_reg mixed [] hst (fun _ => .p rfl (op_move (.t 1 rfl)) <| .p rfl (op_add (.t 0 rfl) .k) <| .p rfl (op_assign (.t 0 rfl)) <| .nil _) (by kernel_rfl) (fun n132 a w hst => ?_)
        replace hst : St M w0 142 [(17, tv (.int .i64 (IntKind.i64.wrap (s99 + (1:Int))))), (16, tv (.int .i64 s12)), (15, tsl rI [t44, smooth_, (1024:Int), (1025:Int)]), (14, tsl (rSl rI) [t32, t37, t38, [], t39, t41]), (13, tsl rI t32), (5, tv (.int .i64 times_))] [] a w := (hst.pick [2, 4, 5, 6, 7, 8])
        exact hK119 _ _ _ (Option.some.inj h).symm (hst.pick [0, 1, 2, 3, 4, 5])
    · replace h := ite_f b134 h
      refine wp_exit ?_
      exact hJp116 _ _ _ (ho _ (Option.some.inj h).symm) (hst.pick [2, 3, 4, 5, 6])
  · replace h := ite_f b135 h
    refine wp_exit ?_
    exact hJp57 _ _ _ (ho _ (Option.some.inj h).symm) (hst.pick [4, 5])

/- diorama/dioramalaw27.LearnBlends -/
noncomputable def fLearnBlends (l_ : (List Int)) (m_ : (List Int)) (n_ : Int) (p_ : Int) (q_ : Int) (at_ : Int) (by_ : Int) : Option (Bool) := (fAround n_ (6:Int)).bind fun t33 => (fMade27 l_ (IntKind.i64.wrap ((1:Int) + t33)) (40:Int)).bind fun t37 => (fMade27 m_ (IntKind.i64.wrap ((1:Int) + t33)) (40:Int)).bind fun t40 => (fodd t37 at_ by_).bind fun t47 => (fodd t40 at_ by_).bind fun t54 => (fodd t37 at_ by_).bind fun t60 => (fodd t40 at_ by_).bind fun t64 => (fshares p_ q_).bind fun t72 => (tailrec (fun (s16 : Int) => ((if (decide (s16 < ([[t37, t40], [t47, t40], [t37, t54], [[], []], [t60, t64], [t37, t37]].length : Int))) = true then (tailrec (fun (s84 : Int) => ((if (decide (s84 < (t72.length : Int))) = true then (idx [[t37, t40], [t47, t40], [t37, t54], [[], []], [t60, t64], [t37, t37]] s16).bind fun t88 => (idx t88 (0:Int)).bind fun t90 => (idx [[t37, t40], [t47, t40], [t37, t54], [[], []], [t60, t64], [t37, t37]] s16).bind fun t94 => (idx t94 (1:Int)).bind fun t96 => (idx t72 s84).bind fun t100 => (fBlend t90 t96 t100).bind fun t102 => (idx [[t37, t40], [t47, t40], [t37, t54], [[], []], [t60, t64], [t37, t37]] s16).bind fun t108 => (idx t108 (0:Int)).bind fun t110 => (idx [[t37, t40], [t47, t40], [t37, t54], [[], []], [t60, t64], [t37, t37]] s16).bind fun t114 => (idx t114 (1:Int)).bind fun t116 => (idx t72 s84).bind fun t120 => (fBlendR t110 t116 t120).bind fun t122 => (opt ((t102.2 != t122.2) == false) (fSameInts t102.1 t122.1) default).bind fun t131 => (opt ((((t102.2 != t122.2) || (!t131)) == false) && ((t102.2 == (0:Int)) == true)) (fRightR t102.1) default).bind fun t139 => (if (((t102.2 != t122.2) || (!t131)) || ((t102.2 == (0:Int)) && (!t139))) = true then (some (.inr (.inr false))) else (some (.inl (IntKind.i64.wrap (s84 + (1:Int)))))) else (some (.inr (.inl ())))) : Option ((Int) ⊕ ((Unit) ⊕ (Bool))))) (0:Int)).bind fun (e85 : (Unit) ⊕ (Bool)) => (match e85 with | .inl p101 => (some (.inl (IntKind.i64.wrap (s16 + (1:Int))))) | .inr p102 => (some (.inr (.inr p102)))) else (some (.inr (.inl ())))) : Option ((Int) ⊕ ((Unit) ⊕ (Bool))))) (0:Int)).bind fun (e17 : (Unit) ⊕ (Bool)) => (match e17 with | .inl p61 => (fBlend t37 t40 (SRatio.mk (0:Int) (0:Int))).bind fun t147 => (fBlend t37 t40 (SRatio.mk (1:Int) (1:Int))).bind fun t154 => (idx t72 (0:Int)).bind fun t161 => (fBlend t37 t37 t161).bind fun t163 => (if (((t147.2 != (0:Int)) || (t154.2 != (0:Int))) || (t163.2 != (0:Int))) = true then (some false) else (fLowestR t37).bind fun t178 => (fSameInts t147.1 t178).bind fun t179 => (opt (t179 == true) (fLowestR t40) default).bind fun t183 => (opt (t179 == true) (fSameInts t154.1 t183) default).bind fun t184 => (opt ((t179 && t184) == true) (fLowestR t37) default).bind fun t189 => (opt ((t179 && t184) == true) (fSameInts t163.1 t189) default).bind fun t190 => (opt (((t179 && t184) && t190) == true) (flives27) default).bind fun t193 => (some (((t179 && t184) && t190) && t193))) | .inr p62 => (some p62))
set_option maxRecDepth 100000 in
theorem LearnBlends_ok {l_ : (List Int)} {m_ : (List Int)} {n_ : Int} {p_ : Int} {q_ : Int} {at_ : Int} {by_ : Int} {r : Bool} (h : fLearnBlends l_ m_ n_ p_ q_ at_ by_ = some r) : FnOk Try.prog 4 [tsl rI l_, tsl rI m_, tv (.int .i64 n_), tv (.int .i64 p_), tv (.int .i64 q_), tv (.int .i64 at_), tv (.int .i64 by_)] none (fun _ => tv (.bool r)) := by
  unfold fLearnBlends at h
  refine FnOk.enter Try.func4 rfl Try.ntmps4 (Nat.le_of_ble_eq_true rfl) (fun M w0 a hst => ?_)
  replace hst : St M w0 195 [(0, tsl rI l_), (1, tsl rI m_), (2, tv (.int .i64 n_)), (3, tv (.int .i64 p_)), (4, tv (.int .i64 q_)), (5, tv (.int .i64 at_)), (6, tv (.int .i64 by_))] [] a w0 := hst
  refine wp_seq_k (fun K1 hK1 => ?_)
  refine wp_reg mixed [] hst (fun _ => .p rfl (op_assign .k) <| .nil _) (by kernel_rfl) (fun n2 a w hst => ?_)
  replace hst : St M w0 195 [(0, tsl rI l_), (1, tsl rI m_), (2, tv (.int .i64 n_)), (3, tv (.int .i64 p_)), (4, tv (.int .i64 q_)), (5, tv (.int .i64 at_)), (6, tv (.int .i64 by_))] [] a w := (hst.pick [1, 2, 3, 4, 5, 6, 7])
  refine hK1 _ _ ?_
  clear hK1 K1
  refine wp_seq_k (fun K3 hK3 => ?_)
  obtain ⟨t33, ht33, h⟩ := bind_some h
  refine wp_reg mixed [] hst (fun _ => .p rfl (op_move (.t 2 rfl)) <| .p rfl (op_callF call13 (Around_ok ht33) (.cons (.of (.t 0 rfl)) <| .cons (.of .k) <| .nil)) <| .p rfl (op_add .k (.t 0 rfl)) <| .p rfl (op_assign (.t 0 rfl)) <| .nil _) (by kernel_rfl) (fun n4 a w hst => ?_)
  replace hst : St M w0 195 [(15, tv (.int .i64 (IntKind.i64.wrap ((1:Int) + t33)))), (0, tsl rI l_), (1, tsl rI m_), (3, tv (.int .i64 p_)), (4, tv (.int .i64 q_)), (5, tv (.int .i64 at_)), (6, tv (.int .i64 by_))] [] a w := (hst.pick [3, 4, 5, 7, 8, 9, 10])
  refine hK3 _ _ ?_
  clear hK3 K3
  refine wp_seq_k (fun K5 hK5 => ?_)
  obtain ⟨t37, ht37, h⟩ := bind_some h
  refine wp_reg mixed [] hst (fun _ => .p rfl (op_move (.t 1 rfl)) <| .p rfl (op_move (.t 1 rfl)) <| .p rfl (op_callF call12 ((Made27_ok ht37).ro ro_self) (.cons (.of (.t 1 rfl)) <| .cons (.of (.t 0 rfl)) <| .cons (.of .k) <| .nil)) <| .p rfl (op_assign (.t 0 rfl)) <| .nil _) (by kernel_rfl) (fun n6 a w hst => ?_)
  replace hst : St M w0 195 [(16, tsl rI t37), (15, tv (.int .i64 (IntKind.i64.wrap ((1:Int) + t33)))), (1, tsl rI m_), (3, tv (.int .i64 p_)), (4, tv (.int .i64 q_)), (5, tv (.int .i64 at_)), (6, tv (.int .i64 by_))] [] a w := (hst.pick [3, 4, 6, 7, 8, 9, 10])
  refine hK5 _ _ ?_
  clear hK5 K5
  refine wp_seq_k (fun K7 hK7 => ?_)
  obtain ⟨t40, ht40, h⟩ := bind_some h
  refine wp_reg mixed [] hst (fun _ => .p rfl (op_move (.t 2 rfl)) <| .p rfl (op_move (.t 2 rfl)) <| .p rfl (op_callF call12 ((Made27_ok ht40).ro ro_self) (.cons (.of (.t 1 rfl)) <| .cons (.of (.t 0 rfl)) <| .cons (.of .k) <| .nil)) <| .p rfl (op_assign (.t 0 rfl)) <| .nil _) (by kernel_rfl) (fun n8 a w hst => ?_)
  replace hst : St M w0 195 [(17, tsl rI t40), (16, tsl rI t37), (3, tv (.int .i64 p_)), (4, tv (.int .i64 q_)), (5, tv (.int .i64 at_)), (6, tv (.int .i64 by_))] [] a w := (hst.pick [3, 4, 7, 8, 9, 10])
  refine hK7 _ _ ?_
  clear hK7 K7
  refine wp_seq_k (fun K9 hK9 => ?_)
  obtain ⟨t47, ht47, h⟩ := bind_some h
  obtain ⟨t54, ht54, h⟩ := bind_some h
  obtain ⟨t60, ht60, h⟩ := bind_some h
  obtain ⟨t64, ht64, h⟩ := bind_some h
  refine wp_reg mixed [] hst (fun _ => .p rfl (op_move (.t 1 rfl)) <| .p rfl (op_move (.t 1 rfl)) <| .p rfl (op_buildSl (R := (rSl rI)) (us := [t37, t40]) Try.underlying26 tok22 (.cons (.t 1 rfl) <| .cons (.t 0 rfl) <| .nil _) rfl (Nat.le_of_ble_eq_true rfl)) <| .p rfl (op_move (.t 4 rfl)) <| .p rfl (op_move (.t 8 rfl)) <| .p rfl (op_move (.t 10 rfl)) <| .p rfl (op_callF call14 ((odd_ok ht47).ro ro_self) (.cons (.of (.t 2 rfl)) <| .cons (.of (.t 1 rfl)) <| .cons (.of (.t 0 rfl)) <| .nil)) <| .p rfl (op_move (.t 7 rfl)) <| .p rfl (op_buildSl (R := (rSl rI)) (us := [t47, t40]) Try.underlying26 tok22 (.cons (.t 1 rfl) <| .cons (.t 0 rfl) <| .nil _) rfl (Nat.le_of_ble_eq_true rfl)) <| .p rfl (op_move (.t 10 rfl)) <| .p rfl (op_move (.t 10 rfl)) <| .p rfl (op_move (.t 15 rfl)) <| .p rfl (op_move (.t 17 rfl)) <| .p rfl (op_callF call14 ((odd_ok ht54).ro ro_self) (.cons (.of (.t 2 rfl)) <| .cons (.of (.t 1 rfl)) <| .cons (.of (.t 0 rfl)) <| .nil)) <| .p rfl (op_buildSl (R := (rSl rI)) (us := [t37, t54]) Try.underlying26 tok22 (.cons (.t 4 rfl) <| .cons (.t 0 rfl) <| .nil _) rfl (Nat.le_of_ble_eq_true rfl)) <| .p rfl (op_buildSl (R := (rSl rI)) (us := [[], []]) Try.underlying26 tok22 (.cons .nilsl <| .cons .nilsl <| .nil _) rfl (Nat.le_of_ble_eq_true rfl)) <| .p rfl (op_move (.t 17 rfl)) <| .p rfl (op_move (.t 21 rfl)) <| .p rfl (op_move (.t 23 rfl)) <| .p rfl (op_callF call14 ((odd_ok ht60).ro ro_self) (.cons (.of (.t 2 rfl)) <| .cons (.of (.t 1 rfl)) <| .cons (.of (.t 0 rfl)) <| .nil)) <| .p rfl (op_move (.t 20 rfl)) <| .p rfl (op_move (.t 25 rfl)) <| .p rfl (op_move (.t 27 rfl)) <| .p rfl (op_callF call14 ((odd_ok ht64).ro ro_self) (.cons (.of (.t 2 rfl)) <| .cons (.of (.t 1 rfl)) <| .cons (.of (.t 0 rfl)) <| .nil)) <| .p rfl (op_buildSl (R := (rSl rI)) (us := [t60, t64]) Try.underlying26 tok22 (.cons (.t 4 rfl) <| .cons (.t 0 rfl) <| .nil _) rfl (Nat.le_of_ble_eq_true rfl)) <| .p rfl (op_move (.t 26 rfl)) <| .p rfl (op_move (.t 27 rfl)) <| .p rfl (op_buildSl (R := (rSl rI)) (us := [t37, t37]) Try.underlying26 tok22 (.cons (.t 1 rfl) <| .cons (.t 0 rfl) <| .nil _) rfl (Nat.le_of_ble_eq_true rfl)) <| .p rfl (op_buildSl (R := (rSl (rSl rI))) (us := [[t37, t40], [t47, t40], [t37, t54], [[], []], [t60, t64], [t37, t37]]) Try.underlying34 tok26 (.cons (.t 25 rfl) <| .cons (.t 19 rfl) <| .cons (.t 13 rfl) <| .cons (.t 12 rfl) <| .cons (.t 3 rfl) <| .cons (.t 0 rfl) <| .nil _) rfl (Nat.le_of_ble_eq_true rfl)) <| .p rfl (op_assign (.t 0 rfl)) <| .nil _) (by kernel_rfl) (fun n10 a w hst => ?_)
  replace hst : St M w0 195 [(18, tsl (rSl (rSl rI)) [[t37, t40], [t47, t40], [t37, t54], [[], []], [t60, t64], [t37, t37]]), (17, tsl rI t40), (16, tsl rI t37), (3, tv (.int .i64 p_)), (4, tv (.int .i64 q_))] [] a w := (hst.pick [29, 30, 31, 32, 33])
  refine hK9 _ _ ?_
  clear hK9 K9
  refine wp_seq_k (fun K11 hK11 => ?_)
  obtain ⟨t72, ht72, h⟩ := bind_some h
  refine wp_reg mixed [] hst (fun _ => .p rfl (op_move (.t 3 rfl)) <| .p rfl (op_move (.t 5 rfl)) <| .p rfl (op_callF call21 ((shares_ok ht72).ro ro_self) (.cons (.of (.t 1 rfl)) <| .cons (.of (.t 0 rfl)) <| .nil)) <| .p rfl (op_assign (.t 0 rfl)) <| .nil _) (by kernel_rfl) (fun n12 a w hst => ?_)
  replace hst : St M w0 195 [(19, tsl rSRatio t72), (18, tsl (rSl (rSl rI)) [[t37, t40], [t47, t40], [t37, t54], [[], []], [t60, t64], [t37, t37]]), (17, tsl rI t40), (16, tsl rI t37)] [] a w := (hst.pick [3, 4, 5, 6])
  refine hK11 _ _ ?_
  clear hK11 K11
  refine wp_seq_k (fun K13 hK13 => ?_)
  refine wp_seq_k (fun K14 hK14 => ?_)
  refine wp_reg mixed [] hst (fun _ => .p rfl (op_assign .k) <| .nil _) (by kernel_rfl) (fun n15 a w hst => ?_)
  replace hst : St M w0 195 [(20, tv (.int .i64 (0:Int))), (19, tsl rSRatio t72), (18, tsl (rSl (rSl rI)) [[t37, t40], [t47, t40], [t37, t54], [[], []], [t60, t64], [t37, t37]]), (17, tsl rI t40), (16, tsl rI t37)] [] a w := (hst.pick [0, 1, 2, 3, 4])
  refine hK14 _ _ ?_
  clear hK14 K14
  obtain ⟨e17, he17, h⟩ := bind_some h
  have hJp61 : ∀ (p61 : Unit) a w, (.inl p61) = e17 → St M w0 195 [(19, tsl rSRatio t72), (17, tsl rI t40), (16, tsl rI t37)] [] a w → K13 a w := by
    intro p61 a w he hst
    subst he
    simp only at h
    refine hK13 _ _ ?_
    clear hK13 K13
    refine wp_seq_k (fun K63 hK63 => ?_)
    obtain ⟨t147, ht147, h⟩ := bind_some h
    refine wp_reg mixed [] hst (fun _ => .p rfl (op_move (.t 2 rfl)) <| .p rfl (op_move (.t 2 rfl)) <| .p (T := rSRatio.ty (SRatio.mk (0:Int) (0:Int))) rfl (op_build Try.underlying39 pl39 zv39 zc39 (.nil _)) <| .p rfl (op_callF call22 ((Blend_ok ht147).ro ro_tup0) (.cons (.of (.t 2 rfl)) <| .cons (.of (.t 1 rfl)) <| .cons (.of (.t 0 rfl)) <| .nil)) <| .p rfl (op_move (.t 0 rfl)) <| .p rfl (op_extract (.t 0 rfl) rfl) <| .p rfl (op_extract (.t 1 rfl) rfl) <| .p rfl (op_assign (.t 1 rfl)) <| .p rfl (op_assign (.t 1 rfl)) <| .nil _) (by kernel_rfl) (fun n64 a w hst => ?_)
    replace hst : St M w0 195 [(26, tsl rI t147.1), (27, tv (.int .i64 t147.2)), (19, tsl rSRatio t72), (17, tsl rI t40), (16, tsl rI t37)] [] a w := (hst.pick [7, 8, 9, 10, 11])
    refine hK63 _ _ ?_
    clear hK63 K63
    refine wp_seq_k (fun K65 hK65 => ?_)
    obtain ⟨t154, ht154, h⟩ := bind_some h
    refine wp_reg mixed [] hst (fun _ => .p rfl (op_move (.t 4 rfl)) <| .p rfl (op_move (.t 4 rfl)) <| .p (T := rSRatio.ty (SRatio.mk (1:Int) (1:Int))) rfl (op_build Try.underlying39 pl39 zv39 zc39 (.cons (R := rI) (u := (1:Int)) rfl .k (Nat.le_of_ble_eq_true rfl) <| .cons (R := rI) (u := (1:Int)) rfl .k (Nat.le_of_ble_eq_true rfl) <| .nil _)) <| .p rfl (op_callF call22 ((Blend_ok ht154).ro ro_tup0) (.cons (.of (.t 2 rfl)) <| .cons (.of (.t 1 rfl)) <| .cons (.of (.t 0 rfl)) <| .nil)) <| .p rfl (op_move (.t 0 rfl)) <| .p rfl (op_extract (.t 0 rfl) rfl) <| .p rfl (op_extract (.t 1 rfl) rfl) <| .p rfl (op_assign (.t 1 rfl)) <| .p rfl (op_assign (.t 1 rfl)) <| .nil _) (by kernel_rfl) (fun n66 a w hst => ?_)
    replace hst : St M w0 195 [(28, tsl rI t154.1), (29, tv (.int .i64 t154.2)), (26, tsl rI t147.1), (27, tv (.int .i64 t147.2)), (19, tsl rSRatio t72), (17, tsl rI t40), (16, tsl rI t37)] [] a w := (hst.pick [7, 8, 9, 10, 11, 12, 13])
    refine hK65 _ _ ?_
    clear hK65 K65
    refine wp_seq_k (fun K67 hK67 => ?_)
    obtain ⟨t161, ht161, h⟩ := bind_some h
    obtain ⟨t163, ht163, h⟩ := bind_some h
    refine wp_reg mixed [] hst (fun _ => .p rfl (op_move (.t 6 rfl)) <| .p rfl (op_move (.t 7 rfl)) <| .p rfl (op_move (.t 6 rfl)) <| .p rfl (op_index Try.underlying35 tok39 (.t 0 rfl) .k ht161) <| .p rfl (op_load tok39 (.t 0 rfl)) <| .p rfl (op_callF call22 ((Blend_ok ht163).ro ro_tup0) (.cons (.of (.t 4 rfl)) <| .cons (.of (.t 3 rfl)) <| .cons (.of (.t 0 rfl)) <| .nil)) <| .p rfl (op_move (.t 0 rfl)) <| .p rfl (op_extract (.t 0 rfl) rfl) <| .p rfl (op_extract (.t 1 rfl) rfl) <| .p rfl (op_assign (.t 1 rfl)) <| .p rfl (op_assign (.t 1 rfl)) <| .nil _) (by kernel_rfl) (fun n68 a w hst => ?_)
    replace hst : St M w0 195 [(30, tsl rI t163.1), (31, tv (.int .i64 t163.2)), (28, tsl rI t154.1), (29, tv (.int .i64 t154.2)), (26, tsl rI t147.1), (27, tv (.int .i64 t147.2)), (17, tsl rI t40), (16, tsl rI t37)] [] a w := (hst.pick [9, 10, 11, 12, 13, 14, 16, 17])
    refine hK67 _ _ ?_
    clear hK67 K67
    refine wp_seq_k (fun K69 hK69 => ?_)
    refine wp_seq_k (fun K70 hK70 => ?_)
    refine wp_reg mixed [] hst (fun _ => .p rfl (op_move (.t 5 rfl)) <| .p rfl (op_neq (.t 0 rfl) .k) <| .p rfl (op_move (.t 0 rfl)) <| .g rfl rfl (.b 0 rfl) (fun _ => op_move (.t 6 rfl)) <| .g rfl rfl (.b 1 rfl) (fun hc => op_neq (.cond (.t 0 rfl) hc) .k) <| .p rfl (op_or (.t 2 rfl) (fun hp => (.cond (.t 0 rfl) (beqF hp)))) <| .p rfl (op_move (.t 0 rfl)) <| .g rfl rfl (.b 0 rfl) (fun _ => op_move (.t 8 rfl)) <| .g rfl rfl (.b 1 rfl) (fun hc => op_neq (.cond (.t 0 rfl) hc) .k) <| .p rfl (op_or (.t 2 rfl) (fun hp => (.cond (.t 0 rfl) (beqF hp)))) <| .nil _) (by kernel_rfl) (fun n71 a w hst => ?_)
    replace hst : St M w0 195 [(175, tv (.bool (((t147.2 != (0:Int)) || (t154.2 != (0:Int))) || (t163.2 != (0:Int))))), (30, tsl rI t163.1), (28, tsl rI t154.1), (26, tsl rI t147.1), (17, tsl rI t40), (16, tsl rI t37)] [] a w := (hst.pick [9, 10, 12, 14, 16, 17])
    refine hK70 _ _ ?_
    clear hK70 K70
    refine wp_test 0 hst rfl (fun b76 => ?_) (fun b76 => ?_)
    · replace h := ite_t b76 h
      refine wp_seq_k (fun K72 hK72 => ?_)
      refine wp_reg mixed [] hst (fun _ => .p rfl (op_assign .k) <| .nil _) (by kernel_rfl) (fun n73 a w hst => ?_)
      replace hst : St M w0 195 [(14, tv (.bool false))] [] a w := (hst.pick [0])
      refine hK72 _ _ ?_
      clear hK72 K72
      refine wp_ret ?_
      obtain rfl := Option.some.inj h
      exact ret_st undef hst rfl (.tmp (.t 0 rfl) .nil) (fun g hg => (by cases hg)) rfl
    · replace h := ite_f b76 h
      refine wp_skip ?_
      refine hK69 _ _ ?_
      clear hK69 K69
      refine wp_seq_k (fun K74 hK74 => ?_)
      obtain ⟨t178, ht178, h⟩ := bind_some h
      obtain ⟨t179, ht179, h⟩ := bind_some h
      obtain ⟨t183, ht183, h⟩ := bind_some h
      obtain ⟨t184, ht184, h⟩ := bind_some h
      obtain ⟨t189, ht189, h⟩ := bind_some h
      obtain ⟨t190, ht190, h⟩ := bind_some h
      obtain ⟨t193, ht193, h⟩ := bind_some h
      refine wp_reg mixed [] hst (fun _ => .p rfl (op_move (.t 3 rfl)) <| .p rfl (op_move (.t 6 rfl)) <| .p rfl (op_callF call24 ((LowestR_ok ht178).ro ro_self) (.cons (.of (.t 0 rfl)) <| .nil)) <| .p rfl (op_callF call18 (SameInts_ok ht179) (.cons (.of (.t 2 rfl)) <| .cons (.of (.t 0 rfl)) <| .nil)) <| .p rfl (op_move (.t 0 rfl)) <| .g rfl rfl (.b 0 rfl) (fun _ => op_move (.t 7 rfl)) <| .g rfl rfl (.b 1 rfl) (fun _ => op_move (.t 10 rfl)) <| .g rfl rfl (.b 2 rfl) (fun hc => op_callF call24 ((LowestR_ok (opt_t ht183 hc)).ro ro_self) (.cons (.of (.cond (.t 0 rfl) hc)) <| .nil)) <| .g rfl rfl (.b 3 rfl) (fun hc => op_callF call18 (SameInts_ok (opt_t ht184 hc)) (.cons (.of (.cond (.t 2 rfl) hc)) <| .cons (.of (.cond (.t 0 rfl) hc)) <| .nil)) <| .p rfl (op_and (.t 4 rfl) (fun hp => (.cond (.t 0 rfl) (beqT hp)))) <| .p rfl (op_move (.t 0 rfl)) <| .g rfl rfl (.b 0 rfl) (fun _ => op_move (.t 12 rfl)) <| .g rfl rfl (.b 1 rfl) (fun _ => op_move (.t 17 rfl)) <| .g rfl rfl (.b 2 rfl) (fun hc => op_callF call24 ((LowestR_ok (opt_t ht189 hc)).ro ro_self) (.cons (.of (.cond (.t 0 rfl) hc)) <| .nil)) <| .g rfl rfl (.b 3 rfl) (fun hc => op_callF call18 (SameInts_ok (opt_t ht190 hc)) (.cons (.of (.cond (.t 2 rfl) hc)) <| .cons (.of (.cond (.t 0 rfl) hc)) <| .nil)) <| .p rfl (op_and (.t 4 rfl) (fun hp => (.cond (.t 0 rfl) (beqT hp)))) <| .p rfl (op_move (.t 0 rfl)) <| .g rfl rfl (.b 0 rfl) (fun hc => op_callF call20 (lives27_ok (opt_t ht193 hc)) (.nil)) <| .p rfl (op_and (.t 1 rfl) (fun hp => (.cond (.t 0 rfl) (beqT hp)))) <| .p rfl (op_assign (.t 0 rfl)) <| .nil _) (by kernel_rfl) (fun n75 a w hst => ?_)
      replace hst : St M w0 195 [(14, tv (.bool (((t179 && t184) && t190) && t193)))] [] a w := (hst.pick [19])
      refine hK74 _ _ ?_
      clear hK74 K74
      refine wp_ret ?_
      obtain rfl := Option.some.inj h
      exact ret_st undef hst rfl (.tmp (.t 0 rfl) .nil) (fun g hg => (by cases hg)) rfl
  have hJp62 : ∀ (p62 : Bool) a w, (.inr p62) = e17 → St M w0 195 [(14, tv (.bool p62))] [] a w → Ret Try.prog Try.f4 M w0 none (fun _ => tv (.bool r)) .ret a w := by
    intro p62 a w he hst
    subst he
    simp only at h
    obtain rfl := Option.some.inj h
    exact ret_st undef hst rfl (.tmp (.t 0 rfl) .nil) (fun g hg => (by cases hg)) rfl
  refine wp_block ?_
  refine wp_loopK _ (fun (s16 : Int) a w => St M w0 195 [(20, tv (.int .i64 s16)), (19, tsl rSRatio t72), (18, tsl (rSl (rSl rI)) [[t37, t40], [t47, t40], [t37, t54], [[], []], [t60, t64], [t37, t37]]), (17, tsl rI t40), (16, tsl rI t37)] [] a w) _ _ he17 (hst.pick [0, 1, 2, 3, 4]) ?_
  clear h
  intro s16 o a w K77 hI h ho hK77
  have hst := hI
  clear hI
  refine wp_seq_k (fun K78 hK78 => ?_)
  refine wp_seq_k (fun K79 hK79 => ?_)
  refine wp_reg mixed [] hst (fun _ => .p rfl (op_move (.t 0 rfl)) <| .p rfl (op_move (.t 3 rfl)) <| .p rfl (op_len Try.underlying34 (.t 0 rfl)) <| .p rfl (op_lss (.t 2 rfl) (.t 0 rfl)) <| .nil _) (by kernel_rfl) (fun n80 a w hst => ?_)
  replace hst : St M w0 195 [(76, tv (.bool (decide (s16 < ([[t37, t40], [t47, t40], [t37, t54], [[], []], [t60, t64], [t37, t37]].length : Int))))), (20, tv (.int .i64 s16)), (19, tsl rSRatio t72), (18, tsl (rSl (rSl rI)) [[t37, t40], [t47, t40], [t37, t54], [[], []], [t60, t64], [t37, t37]]), (17, tsl rI t40), (16, tsl rI t37)] [] a w := (hst.pick [3, 4, 5, 6, 7, 8])
  refine hK79 _ _ ?_
  clear hK79 K79
  refine wp_test 0 hst rfl (fun b120 => ?_) (fun b120 => ?_)
  · replace h := ite_t b120 h
    refine wp_skip ?_
    refine hK78 _ _ ?_
    clear hK78 K78
    refine wp_seq_k (fun K81 hK81 => ?_)
    refine wp_block ?_
    refine wp_seq_k (fun K82 hK82 => ?_)
    refine wp_reg mixed [] hst (fun _ => .p rfl (op_assign .k) <| .nil _) (by kernel_rfl) (fun n83 a w hst => ?_)
    replace hst : St M w0 195 [(21, tv (.int .i64 (0:Int))), (20, tv (.int .i64 s16)), (19, tsl rSRatio t72), (18, tsl (rSl (rSl rI)) [[t37, t40], [t47, t40], [t37, t54], [[], []], [t60, t64], [t37, t37]]), (17, tsl rI t40), (16, tsl rI t37)] [] a w := (hst.pick [0, 2, 3, 4, 5, 6])
    refine hK82 _ _ ?_
    clear hK82 K82
    obtain ⟨e85, he85, h⟩ := bind_some h
    have hJp101 : ∀ (p101 : Unit) a w, (.inl p101) = e85 → St M w0 195 [(20, tv (.int .i64 s16)), (19, tsl rSRatio t72), (18, tsl (rSl (rSl rI)) [[t37, t40], [t47, t40], [t37, t54], [[], []], [t60, t64], [t37, t37]]), (17, tsl rI t40), (16, tsl rI t37)] [] a w → K81 a w := by
      intro p101 a w he hst
      subst he
      simp only at h
      refine hK81 _ _ ?_
      clear hK81 K81
      refine wp_reg mixed [] hst (fun _ => .p rfl (op_move (.t 0 rfl)) <| .p rfl (op_add (.t 0 rfl) .k) <| .p rfl (op_assign (.t 0 rfl)) <| .nil _) (by kernel_rfl) (fun n103 a w hst => ?_)
      replace hst : St M w0 195 [(20, tv (.int .i64 (IntKind.i64.wrap (s16 + (1:Int))))), (19, tsl rSRatio t72), (18, tsl (rSl (rSl rI)) [[t37, t40], [t47, t40], [t37, t54], [[], []], [t60, t64], [t37, t37]]), (17, tsl rI t40), (16, tsl rI t37)] [] a w := (hst.pick [2, 3, 4, 5, 6])
      exact hK77 _ _ _ (Option.some.inj h).symm (hst.pick [0, 1, 2, 3, 4])
    have hJp102 : ∀ (p102 : Bool) a w, (.inr p102) = e85 → St M w0 195 [(14, tv (.bool p102))] [] a w → Ret Try.prog Try.f4 M w0 none (fun _ => tv (.bool r)) .ret a w := by
      intro p102 a w he hst
      subst he
      simp only at h
      exact hJp62 _ _ _ (ho _ (Option.some.inj h).symm) (hst.pick [0])
    refine wp_block ?_
    refine wp_loopK _ (fun (s84 : Int) a w => St M w0 195 [(21, tv (.int .i64 s84)), (20, tv (.int .i64 s16)), (19, tsl rSRatio t72), (18, tsl (rSl (rSl rI)) [[t37, t40], [t47, t40], [t37, t54], [[], []], [t60, t64], [t37, t37]]), (17, tsl rI t40), (16, tsl rI t37)] [] a w) _ _ he85 (hst.pick [0, 1, 2, 3, 4, 5]) ?_
    clear h
    intro s84 o a w K104 hI h ho hK104
    have hst := hI
    clear hI
    refine wp_seq_k (fun K105 hK105 => ?_)
    refine wp_seq_k (fun K106 hK106 => ?_)
    refine wp_reg mixed [] hst (fun _ => .p rfl (op_move (.t 0 rfl)) <| .p rfl (op_move (.t 3 rfl)) <| .p rfl (op_len Try.underlying35 (.t 0 rfl)) <| .p rfl (op_lss (.t 2 rfl) (.t 0 rfl)) <| .nil _) (by kernel_rfl) (fun n107 a w hst => ?_)
    replace hst : St M w0 195 [(82, tv (.bool (decide (s84 < (t72.length : Int))))), (21, tv (.int .i64 s84)), (20, tv (.int .i64 s16)), (19, tsl rSRatio t72), (18, tsl (rSl (rSl rI)) [[t37, t40], [t47, t40], [t37, t54], [[], []], [t60, t64], [t37, t37]]), (17, tsl rI t40), (16, tsl rI t37)] [] a w := (hst.pick [3, 4, 5, 6, 7, 8, 9])
    refine hK106 _ _ ?_
    clear hK106 K106
    refine wp_test 0 hst rfl (fun b119 => ?_) (fun b119 => ?_)
    · replace h := ite_t b119 h
      refine wp_skip ?_
      refine hK105 _ _ ?_
      clear hK105 K105
      refine wp_seq_k (fun K108 hK108 => ?_)
      refine wp_block ?_
      refine wp_seq_k (fun K109 hK109 => ?_)
      obtain ⟨t88, ht88, h⟩ := bind_some h
      obtain ⟨t90, ht90, h⟩ := bind_some h
      obtain ⟨t94, ht94, h⟩ := bind_some h
      obtain ⟨t96, ht96, h⟩ := bind_some h
      obtain ⟨t100, ht100, h⟩ := bind_some h
      obtain ⟨t102, ht102, h⟩ := bind_some h
      refine wp_reg mixed [] hst (fun _ => .p rfl (op_move (.t 4 rfl)) <| .p rfl (op_move (.t 3 rfl)) <| .p rfl (op_index Try.underlying34 tok26 (.t 1 rfl) (.t 0 rfl) ht88) <| .p rfl (op_load tok26 (.t 0 rfl)) <| .p rfl (op_index Try.underlying26 tok22 (.t 0 rfl) .k ht90) <| .p rfl (op_load tok22 (.t 0 rfl)) <| .p rfl (op_move (.t 10 rfl)) <| .p rfl (op_move (.t 9 rfl)) <| .p rfl (op_index Try.underlying34 tok26 (.t 1 rfl) (.t 0 rfl) ht94) <| .p rfl (op_load tok26 (.t 0 rfl)) <| .p rfl (op_index Try.underlying26 tok22 (.t 0 rfl) .k ht96) <| .p rfl (op_load tok22 (.t 0 rfl)) <| .p rfl (op_move (.t 15 rfl)) <| .p rfl (op_move (.t 14 rfl)) <| .p rfl (op_index Try.underlying35 tok39 (.t 1 rfl) (.t 0 rfl) ht100) <| .p rfl (op_load tok39 (.t 0 rfl)) <| .p rfl (op_callF call22 ((Blend_ok ht102).ro ro_tup0) (.cons (.of (.t 10 rfl)) <| .cons (.of (.t 4 rfl)) <| .cons (.of (.t 0 rfl)) <| .nil)) <| .p rfl (op_move (.t 0 rfl)) <| .p rfl (op_extract (.t 0 rfl) rfl) <| .p rfl (op_extract (.t 1 rfl) rfl) <| .p rfl (op_assign (.t 1 rfl)) <| .p rfl (op_assign (.t 1 rfl)) <| .nil _) (by kernel_rfl) (fun n110 a w hst => ?_)
      replace hst : St M w0 195 [(22, tsl rI t102.1), (23, tv (.int .i64 t102.2)), (21, tv (.int .i64 s84)), (20, tv (.int .i64 s16)), (19, tsl rSRatio t72), (18, tsl (rSl (rSl rI)) [[t37, t40], [t47, t40], [t37, t54], [[], []], [t60, t64], [t37, t37]]), (17, tsl rI t40), (16, tsl rI t37)] [] a w := (hst.pick [20, 21, 23, 24, 25, 26, 27, 28])
      refine hK109 _ _ ?_
      clear hK109 K109
      refine wp_seq_k (fun K111 hK111 => ?_)
      obtain ⟨t108, ht108, h⟩ := bind_some h
      obtain ⟨t110, ht110, h⟩ := bind_some h
      obtain ⟨t114, ht114, h⟩ := bind_some h
      obtain ⟨t116, ht116, h⟩ := bind_some h
      obtain ⟨t120, ht120, h⟩ := bind_some h
      obtain ⟨t122, ht122, h⟩ := bind_some h
      refine wp_reg mixed [] hst (fun _ => .p rfl (op_move (.t 5 rfl)) <| .p rfl (op_move (.t 4 rfl)) <| .p rfl (op_index Try.underlying34 tok26 (.t 1 rfl) (.t 0 rfl) ht108) <| .p rfl (op_load tok26 (.t 0 rfl)) <| .p rfl (op_index Try.underlying26 tok22 (.t 0 rfl) .k ht110) <| .p rfl (op_load tok22 (.t 0 rfl)) <| .p rfl (op_move (.t 11 rfl)) <| .p rfl (op_move (.t 10 rfl)) <| .p rfl (op_index Try.underlying34 tok26 (.t 1 rfl) (.t 0 rfl) ht114) <| .p rfl (op_load tok26 (.t 0 rfl)) <| .p rfl (op_index Try.underlying26 tok22 (.t 0 rfl) .k ht116) <| .p rfl (op_load tok22 (.t 0 rfl)) <| .p rfl (op_move (.t 16 rfl)) <| .p rfl (op_move (.t 15 rfl)) <| .p rfl (op_index Try.underlying35 tok39 (.t 1 rfl) (.t 0 rfl) ht120) <| .p rfl (op_load tok39 (.t 0 rfl)) <| .p rfl (op_callF call23 ((BlendR_ok ht122).ro ro_tup0) (.cons (.of (.t 10 rfl)) <| .cons (.of (.t 4 rfl)) <| .cons (.of (.t 0 rfl)) <| .nil)) <| .p rfl (op_move (.t 0 rfl)) <| .p rfl (op_extract (.t 0 rfl) rfl) <| .p rfl (op_extract (.t 1 rfl) rfl) <| .p rfl (op_assign (.t 1 rfl)) <| .p rfl (op_assign (.t 1 rfl)) <| .nil _) (by kernel_rfl) (fun n112 a w hst => ?_)
      replace hst : St M w0 195 [(24, tsl rI t122.1), (25, tv (.int .i64 t122.2)), (22, tsl rI t102.1), (23, tv (.int .i64 t102.2)), (21, tv (.int .i64 s84)), (20, tv (.int .i64 s16)), (19, tsl rSRatio t72), (18, tsl (rSl (rSl rI)) [[t37, t40], [t47, t40], [t37, t54], [[], []], [t60, t64], [t37, t37]]), (17, tsl rI t40), (16, tsl rI t37)] [] a w := (hst.pick [20, 21, 22, 23, 24, 25, 26, 27, 28, 29])
      refine hK111 _ _ ?_
      clear hK111 K111
      refine wp_seq_k (fun K113 hK113 => ?_)
      obtain ⟨t131, ht131, h⟩ := bind_some h
      obtain ⟨t139, ht139, h⟩ := bind_some h
      refine wp_reg mixed [] hst (fun _ => .p rfl (op_move (.t 3 rfl)) <| .p rfl (op_move (.t 2 rfl)) <| .p rfl (op_neq (.t 1 rfl) (.t 0 rfl)) <| .p rfl (op_move (.t 0 rfl)) <| .g rfl rfl (.b 0 rfl) (fun _ => op_move (.t 6 rfl)) <| .g rfl rfl (.b 1 rfl) (fun _ => op_move (.t 5 rfl)) <| .g rfl rfl (.b 2 rfl) (fun hc => op_callF call18 (SameInts_ok (opt_t ht131 hc)) (.cons (.of (.cond (.t 1 rfl) hc)) <| .cons (.of (.cond (.t 0 rfl) hc)) <| .nil)) <| .g rfl rfl (.b 3 rfl) (fun hc => op_not (.cond (.t 0 rfl) hc)) <| .p rfl (op_or (.t 4 rfl) (fun hp => (.cond (.t 0 rfl) (beqF hp)))) <| .p rfl (op_move (.t 0 rfl)) <| .g rfl rfl (.b 0 rfl) (fun _ => op_move (.t 13 rfl)) <| .g rfl rfl (.b 1 rfl) (fun hc => op_eql (.cond (.t 0 rfl) hc) .k) <| .g rfl rfl (.b 2 rfl) (fun hc => op_move (.cond (.t 0 rfl) hc)) <| .g rfl rfl (.c 0 rfl) (fun _ => op_move (.t 15 rfl)) <| .g rfl rfl (.c 1 rfl) (fun hc => op_callF call19 (RightR_ok (opt_t ht139 hc)) (.cons (.of (.cond (.t 0 rfl) hc)) <| .nil)) <| .g rfl rfl (.c 2 rfl) (fun hc => op_not (.cond (.t 0 rfl) hc)) <| .g rfl rfl (.b 6 rfl) (fun hc => op_and (.cond (.t 3 rfl) hc) (fun hp => (.cond (.t 0 rfl) (band_mk hc (beqT hp))))) <| .p rfl (op_or (.t 7 rfl) (fun hp => (.cond (.t 0 rfl) (beqF hp)))) <| .nil _) (by kernel_rfl) (fun n114 a w hst => ?_)
      replace hst : St M w0 195 [(142, tv (.bool (((t102.2 != t122.2) || (!t131)) || ((t102.2 == (0:Int)) && (!t139))))), (21, tv (.int .i64 s84)), (20, tv (.int .i64 s16)), (19, tsl rSRatio t72), (18, tsl (rSl (rSl rI)) [[t37, t40], [t47, t40], [t37, t54], [[], []], [t60, t64], [t37, t37]]), (17, tsl rI t40), (16, tsl rI t37)] [] a w := (hst.pick [17, 22, 23, 24, 25, 26, 27])
      refine hK113 _ _ ?_
      clear hK113 K113
      refine wp_test 0 hst rfl (fun b118 => ?_) (fun b118 => ?_)
      · replace h := ite_t b118 h
        refine wp_seq_k (fun K115 hK115 => ?_)
        refine wp_reg mixed [] hst (fun _ => .p rfl (op_assign .k) <| .nil _) (by kernel_rfl) (fun n116 a w hst => ?_)
        replace hst : St M w0 195 [(14, tv (.bool false))] [] a w := (hst.pick [0])
        refine hK115 _ _ ?_
        clear hK115 K115
        refine wp_ret ?_
        exact hJp102 _ _ _ (ho _ (Option.some.inj h).symm) (hst.pick [0])
      · replace h := ite_f b118 h
        refine wp_skip ?_
        refine hK108 _ _ ?_
        clear hK108 K108
        refine wp_reg mixed [] hst (fun _ => .p rfl (op_move (.t 1 rfl)) <| .p rfl (op_add (.t 0 rfl) .k) <| .p rfl (op_assign (.t 0 rfl)) <| .nil _) (by kernel_rfl) (fun n117 a w hst => ?_)
        replace hst : St M w0 195 [(21, tv (.int .i64 (IntKind.i64.wrap (s84 + (1:Int))))), (20, tv (.int .i64 s16)), (19, tsl rSRatio t72), (18, tsl (rSl (rSl rI)) [[t37, t40], [t47, t40], [t37, t54], [[], []], [t60, t64], [t37, t37]]), (17, tsl rI t40), (16, tsl rI t37)] [] a w := (hst.pick [2, 4, 5, 6, 7, 8])
        exact hK104 _ _ _ (Option.some.inj h).symm (hst.pick [0, 1, 2, 3, 4, 5])
    · replace h := ite_f b119 h
      refine wp_exit ?_
      exact hJp101 _ _ _ (ho _ (Option.some.inj h).symm) (hst.pick [2, 3, 4, 5, 6])
  · replace h := ite_f b120 h
    refine wp_exit ?_
    exact hJp61 _ _ _ (ho _ (Option.some.inj h).symm) (hst.pick [2, 4, 5])

/- diorama/dioramalaw27.LearnBetween -/
noncomputable def fLearnBetween (l_ : (List Int)) (m_ : (List Int)) (n_ : Int) (p_ : Int) (q_ : Int) : Option (Bool) := (fAround n_ (5:Int)).bind fun t26 => (fMade27 l_ (IntKind.i64.wrap ((1:Int) + t26)) (12:Int)).bind fun t30 => (fMade27 m_ (IntKind.i64.wrap ((1:Int) + t26)) (12:Int)).bind fun t33 => (fAround q_ (12:Int)).bind fun t35 => (fAround p_ (IntKind.i64.wrap ((IntKind.i64.wrap ((1:Int) + t35)) + (1:Int)))).bind fun t41 => (fMake t41 (IntKind.i64.wrap ((1:Int) + t35))).bind fun t43 => (fBlend t30 t33 t43.1).bind fun t50 => (fFar t30 t33).bind fun t56 => (fFar t30 t50.1).bind fun t62 => (fMul t56.1 t43.1).bind fun t68 => (if (((((t43.2 != (0:Int)) || (t50.2 != (0:Int))) || (t56.2 != (0:Int))) || (t62.2 != (0:Int))) || (t68.2 != (0:Int))) = true then (some false) else (fCompare t62.1 t68.1).bind fun t91 => (opt ((t91 == (0:Int)) == true) (flives27) default).bind fun t94 => (some ((t91 == (0:Int)) && t94)))
set_option maxRecDepth 100000 in
theorem LearnBetween_ok {l_ : (List Int)} {m_ : (List Int)} {n_ : Int} {p_ : Int} {q_ : Int} {r : Bool} (h : fLearnBetween l_ m_ n_ p_ q_ = some r) : FnOk Try.prog 5 [tsl rI l_, tsl rI m_, tv (.int .i64 n_), tv (.int .i64 p_), tv (.int .i64 q_)] none (fun _ => tv (.bool r)) := by
  unfold fLearnBetween at h
  refine FnOk.enter Try.func5 rfl Try.ntmps5 (Nat.le_of_ble_eq_true rfl) (fun M w0 a hst => ?_)
  replace hst : St M w0 96 [(0, tsl rI l_), (1, tsl rI m_), (2, tv (.int .i64 n_)), (3, tv (.int .i64 p_)), (4, tv (.int .i64 q_))] [] a w0 := hst
  refine wp_seq_k (fun K1 hK1 => ?_)
  refine wp_reg mixed [] hst (fun _ => .p rfl (op_assign .k) <| .nil _) (by kernel_rfl) (fun n2 a w hst => ?_)
  replace hst : St M w0 96 [(0, tsl rI l_), (1, tsl rI m_), (2, tv (.int .i64 n_)), (3, tv (.int .i64 p_)), (4, tv (.int .i64 q_))] [] a w := (hst.pick [1, 2, 3, 4, 5])
  refine hK1 _ _ ?_
  clear hK1 K1
  refine wp_seq_k (fun K3 hK3 => ?_)
  obtain ⟨t26, ht26, h⟩ := bind_some h
  refine wp_reg mixed [] hst (fun _ => .p rfl (op_move (.t 2 rfl)) <| .p rfl (op_callF call13 (Around_ok ht26) (.cons (.of (.t 0 rfl)) <| .cons (.of .k) <| .nil)) <| .p rfl (op_add .k (.t 0 rfl)) <| .p rfl (op_assign (.t 0 rfl)) <| .nil _) (by kernel_rfl) (fun n4 a w hst => ?_)
  replace hst : St M w0 96 [(11, tv (.int .i64 (IntKind.i64.wrap ((1:Int) + t26)))), (0, tsl rI l_), (1, tsl rI m_), (3, tv (.int .i64 p_)), (4, tv (.int .i64 q_))] [] a w := (hst.pick [3, 4, 5, 7, 8])
  refine hK3 _ _ ?_
  clear hK3 K3
  refine wp_seq_k (fun K5 hK5 => ?_)
  obtain ⟨t30, ht30, h⟩ := bind_some h
  refine wp_reg mixed [] hst (fun _ => .p rfl (op_move (.t 1 rfl)) <| .p rfl (op_move (.t 1 rfl)) <| .p rfl (op_callF call12 ((Made27_ok ht30).ro ro_self) (.cons (.of (.t 1 rfl)) <| .cons (.of (.t 0 rfl)) <| .cons (.of .k) <| .nil)) <| .p rfl (op_assign (.t 0 rfl)) <| .nil _) (by kernel_rfl) (fun n6 a w hst => ?_)
  replace hst : St M w0 96 [(12, tsl rI t30), (11, tv (.int .i64 (IntKind.i64.wrap ((1:Int) + t26)))), (1, tsl rI m_), (3, tv (.int .i64 p_)), (4, tv (.int .i64 q_))] [] a w := (hst.pick [3, 4, 6, 7, 8])
  refine hK5 _ _ ?_
  clear hK5 K5
  refine wp_seq_k (fun K7 hK7 => ?_)
  obtain ⟨t33, ht33, h⟩ := bind_some h
  refine wp_reg mixed [] hst (fun _ => .p rfl (op_move (.t 2 rfl)) <| .p rfl (op_move (.t 2 rfl)) <| .p rfl (op_callF call12 ((Made27_ok ht33).ro ro_self) (.cons (.of (.t 1 rfl)) <| .cons (.of (.t 0 rfl)) <| .cons (.of .k) <| .nil)) <| .p rfl (op_assign (.t 0 rfl)) <| .nil _) (by kernel_rfl) (fun n8 a w hst => ?_)
  replace hst : St M w0 96 [(13, tsl rI t33), (12, tsl rI t30), (3, tv (.int .i64 p_)), (4, tv (.int .i64 q_))] [] a w := (hst.pick [3, 4, 7, 8])
  refine hK7 _ _ ?_
  clear hK7 K7
  refine wp_seq_k (fun K9 hK9 => ?_)
  obtain ⟨t35, ht35, h⟩ := bind_some h
  refine wp_reg mixed [] hst (fun _ => .p rfl (op_move (.t 3 rfl)) <| .p rfl (op_callF call13 (Around_ok ht35) (.cons (.of (.t 0 rfl)) <| .cons (.of .k) <| .nil)) <| .p rfl (op_add .k (.t 0 rfl)) <| .p rfl (op_assign (.t 0 rfl)) <| .nil _) (by kernel_rfl) (fun n10 a w hst => ?_)
  replace hst : St M w0 96 [(14, tv (.int .i64 (IntKind.i64.wrap ((1:Int) + t35)))), (13, tsl rI t33), (12, tsl rI t30), (3, tv (.int .i64 p_))] [] a w := (hst.pick [3, 4, 5, 6])
  refine hK9 _ _ ?_
  clear hK9 K9
  refine wp_seq_k (fun K11 hK11 => ?_)
  obtain ⟨t41, ht41, h⟩ := bind_some h
  obtain ⟨t43, ht43, h⟩ := bind_some h
  refine wp_reg mixed [(0, fun v => box (rSRatio.cs (SRatio.mk (0:Int) (0:Int))) v), (0, fun v => box (rSRatio.cs t43.1) v)] hst (fun _ => .p rfl (op_move (.t 3 rfl)) <| .p rfl (op_move (.t 1 rfl)) <| .p rfl (op_add (.t 0 rfl) .k) <| .p rfl (op_callF call13 (Around_ok ht41) (.cons (.of (.t 2 rfl)) <| .cons (.of (.t 0 rfl)) <| .nil)) <| .p rfl (op_move (.t 4 rfl)) <| .p rfl (op_callF call25 (Make_ok ht43) (.cons (.of (.t 1 rfl)) <| .cons (.of (.t 0 rfl)) <| .nil)) <| .p rfl (op_move (.t 0 rfl)) <| .p rfl (op_extract (.t 0 rfl) rfl) <| .p rfl (op_extract (.t 1 rfl) rfl) <| .m 0 [] rfl rfl rfl (op_alloc (R := rSRatio) (a := (SRatio.mk (0:Int) (0:Int))) tok39 zok39) <| .e 0 1 [] rfl rfl rfl rfl (op_storeB (R := rSRatio) (a := t43.1) tok39 (.t 0 rfl) (.t 2 rfl) (Nat.le_of_ble_eq_true rfl)) <| .p rfl (op_assign (.t 1 rfl)) <| .nil _) (by kernel_rfl) (fun n12 a w hst => ?_)
  replace hst : St M w0 96 [(15, tv (n12 0)), (16, tv (.int .i64 t43.2)), (13, tsl rI t33), (12, tsl rI t30)] [box (rSRatio.cs t43.1) (n12 0)] a w := (hst.pick [9, 10, 12, 13])
  refine hK11 _ _ ?_
  clear hK11 K11
  refine wp_seq_k (fun K14 hK14 => ?_)
  obtain ⟨t50, ht50, h⟩ := bind_some h
  refine wp_reg mixed [] hst (fun _ => .p rfl (op_move (.t 3 rfl)) <| .p rfl (op_move (.t 3 rfl)) <| .u [0] rfl rfl (op_loadB (R := rSRatio) (u := t43.1) tok39 (.t 2 rfl) rfl) <| .p rfl (op_callF call22 ((Blend_ok ht50).ro ro_tup0) (.cons (.of (.t 2 rfl)) <| .cons (.of (.t 1 rfl)) <| .cons (.of (.t 0 rfl)) <| .nil)) <| .p rfl (op_move (.t 0 rfl)) <| .p rfl (op_extract (.t 0 rfl) rfl) <| .p rfl (op_extract (.t 1 rfl) rfl) <| .p rfl (op_assign (.t 1 rfl)) <| .p rfl (op_assign (.t 1 rfl)) <| .nil _) (by kernel_rfl) (fun n15 a w hst => ?_)
  replace hst : St M w0 96 [(17, tsl rI t50.1), (18, tv (.int .i64 t50.2)), (15, tv (n12 0)), (16, tv (.int .i64 t43.2)), (13, tsl rI t33), (12, tsl rI t30)] [box (rSRatio.cs t43.1) (n12 0)] a w := (hst.pick [7, 8, 9, 10, 11, 12])
  refine hK14 _ _ ?_
  clear hK14 K14
  refine wp_seq_k (fun K16 hK16 => ?_)
  obtain ⟨t56, ht56, h⟩ := bind_some h
  refine wp_reg mixed [(1, fun v => box (rSRatio.cs (SRatio.mk (0:Int) (0:Int))) v), (1, fun v => box (rSRatio.cs t56.1) v)] hst (fun _ => .p rfl (op_move (.t 5 rfl)) <| .p rfl (op_move (.t 5 rfl)) <| .p rfl (op_callF call26 (Far_ok ht56) (.cons (.of (.t 1 rfl)) <| .cons (.of (.t 0 rfl)) <| .nil)) <| .p rfl (op_move (.t 0 rfl)) <| .p rfl (op_extract (.t 0 rfl) rfl) <| .p rfl (op_extract (.t 1 rfl) rfl) <| .m 1 [] rfl rfl rfl (op_alloc (R := rSRatio) (a := (SRatio.mk (0:Int) (0:Int))) tok39 zok39) <| .e 1 2 [] rfl rfl rfl rfl (op_storeB (R := rSRatio) (a := t56.1) tok39 (.t 0 rfl) (.t 2 rfl) (Nat.le_of_ble_eq_true rfl)) <| .p rfl (op_assign (.t 1 rfl)) <| .nil _) (by kernel_rfl) (fun n17 a w hst => ?_)
  replace hst : St M w0 96 [(19, tv (n17 1)), (20, tv (.int .i64 t56.2)), (17, tsl rI t50.1), (18, tv (.int .i64 t50.2)), (15, tv (n12 0)), (16, tv (.int .i64 t43.2)), (12, tsl rI t30)] [box (rSRatio.cs t43.1) (n12 0), box (rSRatio.cs t56.1) (n17 1)] a w := (hst.pick [6, 7, 8, 9, 10, 11, 13])
  refine hK16 _ _ ?_
  clear hK16 K16
  refine wp_seq_k (fun K19 hK19 => ?_)
  obtain ⟨t62, ht62, h⟩ := bind_some h
  refine wp_reg mixed [(2, fun v => box (rSRatio.cs (SRatio.mk (0:Int) (0:Int))) v), (2, fun v => box (rSRatio.cs t62.1) v)] hst (fun _ => .p rfl (op_move (.t 6 rfl)) <| .p rfl (op_move (.t 3 rfl)) <| .p rfl (op_callF call26 (Far_ok ht62) (.cons (.of (.t 1 rfl)) <| .cons (.of (.t 0 rfl)) <| .nil)) <| .p rfl (op_move (.t 0 rfl)) <| .p rfl (op_extract (.t 0 rfl) rfl) <| .p rfl (op_extract (.t 1 rfl) rfl) <| .m 2 [] rfl rfl rfl (op_alloc (R := rSRatio) (a := (SRatio.mk (0:Int) (0:Int))) tok39 zok39) <| .e 2 3 [] rfl rfl rfl rfl (op_storeB (R := rSRatio) (a := t62.1) tok39 (.t 0 rfl) (.t 2 rfl) (Nat.le_of_ble_eq_true rfl)) <| .p rfl (op_assign (.t 1 rfl)) <| .nil _) (by kernel_rfl) (fun n20 a w hst => ?_)
  replace hst : St M w0 96 [(21, tv (n20 2)), (22, tv (.int .i64 t62.2)), (19, tv (n17 1)), (20, tv (.int .i64 t56.2)), (18, tv (.int .i64 t50.2)), (15, tv (n12 0)), (16, tv (.int .i64 t43.2))] [box (rSRatio.cs t43.1) (n12 0), box (rSRatio.cs t56.1) (n17 1), box (rSRatio.cs t62.1) (n20 2)] a w := (hst.pick [6, 7, 8, 9, 11, 12, 13])
  refine hK19 _ _ ?_
  clear hK19 K19
  refine wp_seq_k (fun K22 hK22 => ?_)
  obtain ⟨t68, ht68, h⟩ := bind_some h
  refine wp_reg mixed [(3, fun v => box (rSRatio.cs (SRatio.mk (0:Int) (0:Int))) v), (3, fun v => box (rSRatio.cs t68.1) v)] hst (fun _ => .u [1] rfl rfl (op_loadB (R := rSRatio) (u := t56.1) tok39 (.t 2 rfl) rfl) <| .u [0] rfl rfl (op_loadB (R := rSRatio) (u := t43.1) tok39 (.t 6 rfl) rfl) <| .p rfl (op_callF call27 (Mul_ok ht68) (.cons (.of (.t 1 rfl)) <| .cons (.of (.t 0 rfl)) <| .nil)) <| .p rfl (op_move (.t 0 rfl)) <| .p rfl (op_extract (.t 0 rfl) rfl) <| .p rfl (op_extract (.t 1 rfl) rfl) <| .m 3 [] rfl rfl rfl (op_alloc (R := rSRatio) (a := (SRatio.mk (0:Int) (0:Int))) tok39 zok39) <| .e 3 4 [] rfl rfl rfl rfl (op_storeB (R := rSRatio) (a := t68.1) tok39 (.t 0 rfl) (.t 2 rfl) (Nat.le_of_ble_eq_true rfl)) <| .p rfl (op_assign (.t 1 rfl)) <| .nil _) (by kernel_rfl) (fun n23 a w hst => ?_)
  replace hst : St M w0 96 [(23, tv (n23 3)), (24, tv (.int .i64 t68.2)), (21, tv (n20 2)), (22, tv (.int .i64 t62.2)), (20, tv (.int .i64 t56.2)), (18, tv (.int .i64 t50.2)), (16, tv (.int .i64 t43.2))] [box (rSRatio.cs t62.1) (n20 2), box (rSRatio.cs t68.1) (n23 3)] a w := (hst.pick [6, 7, 8, 9, 11, 12, 14]).keepA [false, false, true, true]
  refine hK22 _ _ ?_
  clear hK22 K22
  refine wp_seq_k (fun K25 hK25 => ?_)
  refine wp_seq_k (fun K26 hK26 => ?_)
  refine wp_reg mixed [] hst (fun _ => .p rfl (op_move (.t 6 rfl)) <| .p rfl (op_neq (.t 0 rfl) .k) <| .p rfl (op_move (.t 0 rfl)) <| .g rfl rfl (.b 0 rfl) (fun _ => op_move (.t 8 rfl)) <| .g rfl rfl (.b 1 rfl) (fun hc => op_neq (.cond (.t 0 rfl) hc) .k) <| .p rfl (op_or (.t 2 rfl) (fun hp => (.cond (.t 0 rfl) (beqF hp)))) <| .p rfl (op_move (.t 0 rfl)) <| .g rfl rfl (.b 0 rfl) (fun _ => op_move (.t 11 rfl)) <| .g rfl rfl (.b 1 rfl) (fun hc => op_neq (.cond (.t 0 rfl) hc) .k) <| .p rfl (op_or (.t 2 rfl) (fun hp => (.cond (.t 0 rfl) (beqF hp)))) <| .p rfl (op_move (.t 0 rfl)) <| .g rfl rfl (.b 0 rfl) (fun _ => op_move (.t 14 rfl)) <| .g rfl rfl (.b 1 rfl) (fun hc => op_neq (.cond (.t 0 rfl) hc) .k) <| .p rfl (op_or (.t 2 rfl) (fun hp => (.cond (.t 0 rfl) (beqF hp)))) <| .p rfl (op_move (.t 0 rfl)) <| .g rfl rfl (.b 0 rfl) (fun _ => op_move (.t 16 rfl)) <| .g rfl rfl (.b 1 rfl) (fun hc => op_neq (.cond (.t 0 rfl) hc) .k) <| .p rfl (op_or (.t 2 rfl) (fun hp => (.cond (.t 0 rfl) (beqF hp)))) <| .nil _) (by kernel_rfl) (fun n27 a w hst => ?_)
  replace hst : St M w0 96 [(88, tv (.bool (((((t43.2 != (0:Int)) || (t50.2 != (0:Int))) || (t56.2 != (0:Int))) || (t62.2 != (0:Int))) || (t68.2 != (0:Int))))), (23, tv (n23 3)), (21, tv (n20 2))] [box (rSRatio.cs t62.1) (n20 2), box (rSRatio.cs t68.1) (n23 3)] a w := (hst.pick [17, 18, 20])
  refine hK26 _ _ ?_
  clear hK26 K26
  refine wp_test 0 hst rfl (fun b32 => ?_) (fun b32 => ?_)
  · replace h := ite_t b32 h
    refine wp_seq_k (fun K28 hK28 => ?_)
    refine wp_reg mixed [] hst (fun _ => .p rfl (op_assign .k) <| .nil _) (by kernel_rfl) (fun n29 a w hst => ?_)
    replace hst : St M w0 96 [(10, tv (.bool false))] [] a w := (hst.pick [0]).keepA [false, false]
    refine hK28 _ _ ?_
    clear hK28 K28
    refine wp_ret ?_
    obtain rfl := Option.some.inj h
    exact ret_st undef hst rfl (.tmp (.t 0 rfl) .nil) (fun g hg => (by cases hg)) rfl
  · replace h := ite_f b32 h
    refine wp_skip ?_
    refine hK25 _ _ ?_
    clear hK25 K25
    refine wp_seq_k (fun K30 hK30 => ?_)
    obtain ⟨t91, ht91, h⟩ := bind_some h
    obtain ⟨t94, ht94, h⟩ := bind_some h
    refine wp_reg mixed [] hst (fun _ => .u [0] rfl rfl (op_loadB (R := rSRatio) (u := t62.1) tok39 (.t 2 rfl) rfl) <| .u [1] rfl rfl (op_loadB (R := rSRatio) (u := t68.1) tok39 (.t 2 rfl) rfl) <| .p rfl (op_callF call28 (Compare_ok ht91) (.cons (.of (.t 1 rfl)) <| .cons (.of (.t 0 rfl)) <| .nil)) <| .p rfl (op_eql (.t 0 rfl) .k) <| .p rfl (op_move (.t 0 rfl)) <| .g rfl rfl (.b 0 rfl) (fun hc => op_callF call20 (lives27_ok (opt_t ht94 hc)) (.nil)) <| .p rfl (op_and (.t 1 rfl) (fun hp => (.cond (.t 0 rfl) (beqT hp)))) <| .p rfl (op_assign (.t 0 rfl)) <| .nil _) (by kernel_rfl) (fun n31 a w hst => ?_)
    replace hst : St M w0 96 [(10, tv (.bool ((t91 == (0:Int)) && t94)))] [] a w := (hst.pick [7]).keepA [false, false]
    refine hK30 _ _ ?_
    clear hK30 K30
    refine wp_ret ?_
    obtain rfl := Option.some.inj h
    exact ret_st undef hst rfl (.tmp (.t 0 rfl) .nil) (fun g hg => (by cases hg)) rfl


end Go.Proofs.Ytjniiejgccdhiaa
