/- Go functions as Lean functions, and the proofs that they compute them, written by a program. No condition. -/
import Derived.Test.YtjniiejgccdhiaaBenA
namespace Go.Proofs.Ytjniiejgccdhiaa
open Go.Sim

/- diorama/dioramaref14.row -/
noncomputable def frow (n_ : Int) (a_ : Int) : Option (Int) := (if (decide (a_ < (0:Int))) = true then (some n_) else (some a_))
set_option maxRecDepth 100000 in
set_option maxHeartbeats 4000000 in
theorem row_ok {n_ : Int} {a_ : Int} {r : Int} (h : frow n_ a_ = some r) : FnOk Try.prog 66 [ti n_, ti a_] [] (fun _ => []) (fun _ => ti r) := by
  unfold frow at h
  refine FnOk.enter Try.func66 rfl Try.ntmps66 (Nat.le_of_ble_eq_true rfl) (fun M0 M w0 a hpl hst => ?_)
  replace hst : St M w0 9 [(0, ti n_), (1, ti a_)] [] a w0 := hst
  refine wp_seq_k (fun K1 hK1 => ?_)
  refine wp_reg mixed [] hst (fun _ => .p rfl (op_assign .k) <| .nil _ _) (by kernel_rfl) (fun n0 a w hst => ?_)
  replace hst : St M w0 9 [(0, ti n_), (1, ti a_)] [] a w := (hst.pick [1, 2])
  refine hK1 _ _ ?_
  try clear hK1 K1
  refine wp_seq_k (fun K2 hK2 => ?_)
  refine wp_seq_k (fun K3 hK3 => ?_)
  refine wp_reg mixed [] hst (fun _ => .p rfl (op_move (.t 1 rfl)) <| .p rfl (op_lss (.t 0 rfl) .k) <| .nil _ _) (by kernel_rfl) (fun n1 a w hst => ?_)
  replace hst : St M w0 9 [(6, tb (decide (a_ < (0:Int)))), (0, ti n_), (1, ti a_)] [] a w := (hst.pick [1, 2, 3])
  refine hK3 _ _ ?_
  try clear hK3 K3
  refine wp_test 0 hst rfl (fun b6 => ?_) (fun b6 => ?_)
  · replace h := ite_t b6 h
    refine wp_seq_k (fun K4 hK4 => ?_)
    refine wp_reg mixed [] hst (fun _ => .p rfl (op_move (.t 1 rfl)) <| .p rfl (op_assign (.t 0 rfl)) <| .nil _ _) (by kernel_rfl) (fun n2 a w hst => ?_)
    replace hst : St M w0 9 [(4, ti n_)] [] a w := (hst.pick [1])
    refine hK4 _ _ ?_
    try clear hK4 K4
    refine wp_ret ?_
    obtain rfl := Option.some.inj h
    exact ret_st undef [] hpl hst rfl (.tmp (.t 0 rfl) .nil) rfl rfl rfl
  · replace h := ite_f b6 h
    refine wp_skip ?_
    refine hK2 _ _ ?_
    try clear hK2 K2
    refine wp_seq_k (fun K5 hK5 => ?_)
    refine wp_reg mixed [] hst (fun _ => .p rfl (op_move (.t 2 rfl)) <| .p rfl (op_assign (.t 0 rfl)) <| .nil _ _) (by kernel_rfl) (fun n3 a w hst => ?_)
    replace hst : St M w0 9 [(4, ti a_)] [] a w := (hst.pick [1])
    refine hK5 _ _ ?_
    try clear hK5 K5
    refine wp_ret ?_
    obtain rfl := Option.some.inj h
    exact ret_st undef [] hpl hst rfl (.tmp (.t 0 rfl) .nil) rfl rfl rfl

/- diorama/dioramaref14.Made -/
noncomputable def fMade14 (l_ : (List Int)) : Option (Int × (List SDiff)) := (fAt l_ (0:Int) (5:Int)).bind fun t13 => (tailrec (fun (s7 : Int × List SDiff) => ((if (decide (s7.1 < (IntKind.i64.wrap ((1:Int) + t13)))) = true then (fAt l_ (IntKind.i64.wrap ((1:Int) + s7.1)) (12:Int)).bind fun t23 => (fAt l_ (IntKind.i64.wrap ((7:Int) + s7.1)) (9:Int)).bind fun t28 => ((if (decide (t28 > (0:Int))) = true then (rm (s7.2.length + [(SDiff.mk (-1:Int) s7.1 (IntKind.i64.wrap (0 - (IntKind.i64.wrap (t23 - (4:Int))))))].length)).bind fun _ => (some (s7.2 ++ [(SDiff.mk (-1:Int) s7.1 (IntKind.i64.wrap (0 - (IntKind.i64.wrap (t23 - (4:Int))))))])) else (some s7.2))).bind fun (p68 : List SDiff) => (fAt l_ (IntKind.i64.wrap ((13:Int) + s7.1)) (9:Int)).bind fun t40 => ((if (decide (t40 > (0:Int))) = true then (fAt l_ (IntKind.i64.wrap ((19:Int) + s7.1)) (9:Int)).bind fun t48 => (rm (p68.length + [(SDiff.mk s7.1 (-1:Int) (IntKind.i64.wrap ((IntKind.i64.wrap (t23 - (4:Int))) + t48)))].length)).bind fun _ => (some (p68 ++ [(SDiff.mk s7.1 (-1:Int) (IntKind.i64.wrap ((IntKind.i64.wrap (t23 - (4:Int))) + t48)))])) else (some p68))).bind fun (p72 : List SDiff) => (some (.inl ((IntKind.i64.wrap (s7.1 + (1:Int))), p72))) else (some (.inr s7.2))) : Option ((Int × List SDiff) ⊕ ((List SDiff))))) ((0:Int), ([] : List SDiff))).bind fun (p26 : (List SDiff)) => (tailrec (fun (s30 : Int × List SDiff) => ((if ((decide (s30.1 < (l_.length : Int))) && (decide (s30.1 < (32:Int)))) = true then (fAt l_ s30.1 (1048576:Int)).bind fun t65 => (nz (IntKind.i64.wrap ((IntKind.i64.wrap ((1:Int) + t13)) + (1:Int)))).bind fun _ => (nz (IntKind.i64.wrap ((IntKind.i64.wrap ((1:Int) + t13)) + (1:Int)))).bind fun _ => ((if ((IntKind.i64.wrap ((Int.tmod t65 (IntKind.i64.wrap ((IntKind.i64.wrap ((1:Int) + t13)) + (1:Int)))) - (1:Int))) != (IntKind.i64.wrap ((Int.tmod (IntKind.i64.wrap (Int.tdiv t65 (8:Int))) (IntKind.i64.wrap ((IntKind.i64.wrap ((1:Int) + t13)) + (1:Int)))) - (1:Int)))) = true then (rm (s30.2.length + [(SDiff.mk (IntKind.i64.wrap ((Int.tmod t65 (IntKind.i64.wrap ((IntKind.i64.wrap ((1:Int) + t13)) + (1:Int)))) - (1:Int))) (IntKind.i64.wrap ((Int.tmod (IntKind.i64.wrap (Int.tdiv t65 (8:Int))) (IntKind.i64.wrap ((IntKind.i64.wrap ((1:Int) + t13)) + (1:Int)))) - (1:Int))) (IntKind.i64.wrap ((Int.tmod (IntKind.i64.wrap (Int.tdiv t65 (64:Int))) (11:Int)) - (3:Int))))].length)).bind fun _ => (some (s30.2 ++ [(SDiff.mk (IntKind.i64.wrap ((Int.tmod t65 (IntKind.i64.wrap ((IntKind.i64.wrap ((1:Int) + t13)) + (1:Int)))) - (1:Int))) (IntKind.i64.wrap ((Int.tmod (IntKind.i64.wrap (Int.tdiv t65 (8:Int))) (IntKind.i64.wrap ((IntKind.i64.wrap ((1:Int) + t13)) + (1:Int)))) - (1:Int))) (IntKind.i64.wrap ((Int.tmod (IntKind.i64.wrap (Int.tdiv t65 (64:Int))) (11:Int)) - (3:Int))))])) else (some s30.2))).bind fun (p56 : List SDiff) => (some (.inl ((IntKind.i64.wrap (s30.1 + (1:Int))), p56))) else (some (.inr s30.2))) : Option ((Int × List SDiff) ⊕ ((List SDiff))))) ((25:Int), p26)).bind fun (p45 : (List SDiff)) => (some ((IntKind.i64.wrap ((1:Int) + t13)), p45))
set_option maxRecDepth 100000 in
set_option maxHeartbeats 4000000 in
theorem Made14_ok {l_ : (List Int)} {r : Int × (List SDiff)} (h : fMade14 l_ = some r) : FnOk Try.prog 29 [tsl rI l_] [] (fun v => [own rSDiff 71 r.2 v]) (fun v => ttup [ti r.1, tv v]) := by
  unfold fMade14 at h
  refine FnOk.enter Try.func29 rfl Try.ntmps29 (Nat.le_of_ble_eq_true rfl) (fun M0 M w0 a hpl hst => ?_)
  replace hst : St M w0 92 [(0, tsl rI l_)] [] a w0 := hst
  refine wp_seq_k (fun K1 hK1 => ?_)
  refine wp_reg mixed [] hst (fun _ => .p rfl (op_assign .k) <| .p rfl (op_assign .k) <| .nil _ _) (by kernel_rfl) (fun n0 a w hst => ?_)
  replace hst : St M w0 92 [(0, tsl rI l_)] [] a w := (hst.pick [2])
  refine hK1 _ _ ?_
  try clear hK1 K1
  refine wp_seq_k (fun K2 hK2 => ?_)
  obtain ⟨t13, ht13, h⟩ := bind_some h
  refine wp_reg mixed [] hst (fun _ => .p rfl (op_move (.t 0 rfl)) <| .p rfl (op_callF call44 (At_ok ht13) (.cons (.of (.t 0 rfl)) <| .cons (.of .k) <| .cons (.of .k) <| .nil)) <| .p rfl (op_add .k (.t 0 rfl)) <| .p rfl (op_assign (.t 0 rfl)) <| .nil _ _) (by kernel_rfl) (fun n1 a w hst => ?_)
  replace hst : St M w0 92 [(4, ti (IntKind.i64.wrap ((1:Int) + t13))), (0, tsl rI l_)] [] a w := (hst.pick [3, 4])
  refine hK2 _ _ ?_
  try clear hK2 K2
  refine wp_seq_k (fun K3 hK3 => ?_)
  refine wp_reg mixed [] hst (fun _ => .p rfl (op_assign .k) <| .nil _ _) (by kernel_rfl) (fun n2 a w hst => ?_)
  replace hst : St M w0 92 [(5, tv (.slice none 0 0)), (4, ti (IntKind.i64.wrap ((1:Int) + t13))), (0, tsl rI l_)] [own rSDiff 71 ([] : List SDiff) (.slice none 0 0)] a w := ((hst.pick [0, 1, 2]).nil (rSDiff) 71)
  refine hK3 _ _ ?_
  try clear hK3 K3
  refine wp_seq_k (fun K5 hK5 => ?_)
  refine wp_seq_k (fun K6 hK6 => ?_)
  refine wp_reg mixed [] hst (fun _ => .p rfl (op_assign .k) <| .nil _ _) (by kernel_rfl) (fun n3 a w hst => ?_)
  replace hst : St M w0 92 [(6, ti (0:Int)), (5, tv (.slice none 0 0)), (4, ti (IntKind.i64.wrap ((1:Int) + t13))), (0, tsl rI l_)] [own rSDiff 71 ([] : List SDiff) (.slice none 0 0)] a w := (hst.pick [0, 1, 2, 3])
  refine hK6 _ _ ?_
  try clear hK6 K6
  obtain ⟨e9, he9, h⟩ := bind_some h
  have hJp26 : ∀ (p26 : List SDiff) (v27 : Value) a w, p26 = e9 → St M w0 92 [(5, tv v27), (4, ti (IntKind.i64.wrap ((1:Int) + t13))), (0, tsl rI l_)] [own rSDiff 71 p26 v27] a w → K5 a w := by
    intro p26 v27 a w he hst
    subst he
    refine hK5 _ _ ?_
    try clear hK5 K5
    refine wp_seq_k (fun K28 hK28 => ?_)
    refine wp_seq_k (fun K29 hK29 => ?_)
    refine wp_reg mixed [] hst (fun _ => .p rfl (op_assign .k) <| .nil _ _) (by kernel_rfl) (fun n11 a w hst => ?_)
    replace hst : St M w0 92 [(8, ti (25:Int)), (5, tv v27), (4, ti (IntKind.i64.wrap ((1:Int) + t13))), (0, tsl rI l_)] [own rSDiff 71 p26 v27] a w := (hst.pick [0, 1, 2, 3])
    refine hK29 _ _ ?_
    try clear hK29 K29
    obtain ⟨e32, he32, h⟩ := bind_some h
    have hJp45 : ∀ (p45 : List SDiff) (v46 : Value) a w, p45 = e32 → St M w0 92 [(5, tv v46), (4, ti (IntKind.i64.wrap ((1:Int) + t13)))] [own rSDiff 71 p45 v46] a w → K28 a w := by
      intro p45 v46 a w he hst
      subst he
      refine hK28 _ _ ?_
      try clear hK28 K28
      refine wp_seq_k (fun K47 hK47 => ?_)
      refine wp_reg mixed [] hst (fun _ => .p rfl (op_move (.t 1 rfl)) <| .p rfl (op_move (.t 1 rfl)) <| .p rfl (op_assign (.t 1 rfl)) <| .p rfl (op_assign (.t 1 rfl)) <| .nil _ _) (by kernel_rfl) (fun n19 a w hst => ?_)
      replace hst : St M w0 92 [(91, tv v46), (2, ti (IntKind.i64.wrap ((1:Int) + t13))), (3, tv v46), (5, tv v46)] [own rSDiff 71 p45 v46] a w := (hst.pick [1, 2, 3, 4])
      refine hK47 _ _ ?_
      try clear hK47 K47
      refine wp_ret ?_
      obtain rfl := Option.some.inj h
      exact ret_st v46 [0] hpl hst rfl (.tmp (.t 1 rfl) (.tmp (.t 2 rfl) .nil)) rfl rfl rfl
    refine wp_block ?_
    refine wp_loopK _ (fun (s30 : Int × List SDiff) a w => ∃ v31 : Value, St M w0 92 [(8, ti s30.1), (5, tv v31), (4, ti (IntKind.i64.wrap ((1:Int) + t13))), (0, tsl rI l_)] [own rSDiff 71 s30.2 v31] a w) _ _ he32 ⟨v27, hst.pick [0, 1, 2, 3]⟩ ?_
    clear h
    intro s30 o a w K48 hI h ho hK48
    obtain ⟨v31, hst⟩ := hI
    refine wp_seq_k (fun K49 hK49 => ?_)
    refine wp_seq_k (fun K50 hK50 => ?_)
    refine wp_reg mixed [] hst (fun _ => .p rfl (op_move (.t 0 rfl)) <| .p rfl (op_move (.t 4 rfl)) <| .p rfl (op_len Try.underlying22 (.t 0 rfl)) <| .p rfl (op_lss (.t 2 rfl) (.t 0 rfl)) <| .p rfl (op_move (.t 0 rfl)) <| .g rfl rfl (.b 0 rfl) (fun _ => op_move (.t 5 rfl)) <| .g rfl rfl (.b 1 rfl) (fun hc => op_lss (.cond (.t 0 rfl) hc) .k) <| .p rfl (op_and (.t 2 rfl) (fun hp => (.cond (.t 0 rfl) (beqT hp)))) <| .nil _ _) (by kernel_rfl) (fun n12 a w hst => ?_)
    replace hst : St M w0 92 [(60, tb ((decide (s30.1 < (l_.length : Int))) && (decide (s30.1 < (32:Int))))), (8, ti s30.1), (5, tv v31), (4, ti (IntKind.i64.wrap ((1:Int) + t13))), (0, tsl rI l_)] [own rSDiff 71 s30.2 v31] a w := (hst.pick [7, 8, 9, 10, 11])
    refine hK50 _ _ ?_
    try clear hK50 K50
    refine wp_test 0 hst rfl (fun b60 => ?_) (fun b60 => ?_)
    · replace h := ite_t b60 h
      refine wp_skip ?_
      refine hK49 _ _ ?_
      try clear hK49 K49
      refine wp_seq_k (fun K51 hK51 => ?_)
      refine wp_block ?_
      refine wp_seq_k (fun K52 hK52 => ?_)
      obtain ⟨t65, ht65, h⟩ := bind_some h
      refine wp_reg mixed [] hst (fun _ => .p rfl (op_move (.t 4 rfl)) <| .p rfl (op_move (.t 2 rfl)) <| .p rfl (op_callF call44 (At_ok ht65) (.cons (.of (.t 1 rfl)) <| .cons (.of (.t 0 rfl)) <| .cons (.of .k) <| .nil)) <| .p rfl (op_assign (.t 0 rfl)) <| .nil _ _) (by kernel_rfl) (fun n14 a w hst => ?_)
      replace hst : St M w0 92 [(9, ti t65), (8, ti s30.1), (5, tv v31), (4, ti (IntKind.i64.wrap ((1:Int) + t13))), (0, tsl rI l_)] [own rSDiff 71 s30.2 v31] a w := (hst.pick [3, 5, 6, 7, 8])
      refine hK52 _ _ ?_
      try clear hK52 K52
      refine wp_seq_k (fun K53 hK53 => ?_)
      obtain ⟨u69, hu69, h⟩ := bind_some h
      refine wp_reg mixed [] hst (fun _ => .p rfl (op_move (.t 0 rfl)) <| .p rfl (op_move (.t 4 rfl)) <| .p rfl (op_add (.t 0 rfl) .k) <| .p rfl (op_rem (.t 2 rfl) (.t 0 rfl) (nz_ne hu69)) <| .p rfl (op_sub (.t 0 rfl) .k) <| .p rfl (op_assign (.t 0 rfl)) <| .nil _ _) (by kernel_rfl) (fun n15 a w hst => ?_)
      replace hst : St M w0 92 [(10, ti (IntKind.i64.wrap ((Int.tmod t65 (IntKind.i64.wrap ((IntKind.i64.wrap ((1:Int) + t13)) + (1:Int)))) - (1:Int)))), (9, ti t65), (8, ti s30.1), (5, tv v31), (4, ti (IntKind.i64.wrap ((1:Int) + t13))), (0, tsl rI l_)] [own rSDiff 71 s30.2 v31] a w := (hst.pick [5, 6, 7, 8, 9, 10])
      refine hK53 _ _ ?_
      try clear hK53 K53
      refine wp_seq_k (fun K54 hK54 => ?_)
      obtain ⟨u75, hu75, h⟩ := bind_some h
      refine wp_reg mixed [] hst (fun _ => .p rfl (op_move (.t 1 rfl)) <| .p rfl (op_quo (.t 0 rfl) .k (by decide)) <| .p rfl (op_move (.t 6 rfl)) <| .p rfl (op_add (.t 0 rfl) .k) <| .p rfl (op_rem (.t 2 rfl) (.t 0 rfl) (nz_ne hu75)) <| .p rfl (op_sub (.t 0 rfl) .k) <| .p rfl (op_assign (.t 0 rfl)) <| .nil _ _) (by kernel_rfl) (fun n16 a w hst => ?_)
      replace hst : St M w0 92 [(11, ti (IntKind.i64.wrap ((Int.tmod (IntKind.i64.wrap (Int.tdiv t65 (8:Int))) (IntKind.i64.wrap ((IntKind.i64.wrap ((1:Int) + t13)) + (1:Int)))) - (1:Int)))), (10, ti (IntKind.i64.wrap ((Int.tmod t65 (IntKind.i64.wrap ((IntKind.i64.wrap ((1:Int) + t13)) + (1:Int)))) - (1:Int)))), (9, ti t65), (8, ti s30.1), (5, tv v31), (4, ti (IntKind.i64.wrap ((1:Int) + t13))), (0, tsl rI l_)] [own rSDiff 71 s30.2 v31] a w := (hst.pick [6, 7, 8, 9, 10, 11, 12])
      refine hK54 _ _ ?_
      try clear hK54 K54
      refine wp_seq_k (fun K55 hK55 => ?_)
      refine wp_reg mixed [] hst (fun _ => .p rfl (op_move (.t 1 rfl)) <| .p rfl (op_move (.t 1 rfl)) <| .p rfl (op_neq (.t 1 rfl) (.t 0 rfl)) <| .nil _ _) (by kernel_rfl) (fun n17 a w hst => ?_)
      replace hst : St M w0 92 [(79, tb ((IntKind.i64.wrap ((Int.tmod t65 (IntKind.i64.wrap ((IntKind.i64.wrap ((1:Int) + t13)) + (1:Int)))) - (1:Int))) != (IntKind.i64.wrap ((Int.tmod (IntKind.i64.wrap (Int.tdiv t65 (8:Int))) (IntKind.i64.wrap ((IntKind.i64.wrap ((1:Int) + t13)) + (1:Int)))) - (1:Int))))), (11, ti (IntKind.i64.wrap ((Int.tmod (IntKind.i64.wrap (Int.tdiv t65 (8:Int))) (IntKind.i64.wrap ((IntKind.i64.wrap ((1:Int) + t13)) + (1:Int)))) - (1:Int)))), (10, ti (IntKind.i64.wrap ((Int.tmod t65 (IntKind.i64.wrap ((IntKind.i64.wrap ((1:Int) + t13)) + (1:Int)))) - (1:Int)))), (9, ti t65), (8, ti s30.1), (5, tv v31), (4, ti (IntKind.i64.wrap ((1:Int) + t13))), (0, tsl rI l_)] [own rSDiff 71 s30.2 v31] a w := (hst.pick [2, 3, 4, 5, 6, 7, 8, 9])
      refine hK55 _ _ ?_
      try clear hK55 K55
      obtain ⟨p56, hp56, h⟩ := bind_some h
      have hJp56 : ∀ (v58 : Value) a w, St M w0 92 [(5, tv v58), (8, ti s30.1), (4, ti (IntKind.i64.wrap ((1:Int) + t13))), (0, tsl rI l_)] [own rSDiff 71 p56 v58] a w → K51 a w := by
        intro v58 a w hst
        refine hK51 _ _ ?_
        try clear hK51 K51
        refine wp_reg mixed [] hst (fun _ => .p rfl (op_move (.t 1 rfl)) <| .p rfl (op_add (.t 0 rfl) .k) <| .p rfl (op_assign (.t 0 rfl)) <| .nil _ _) (by kernel_rfl) (fun n13 a w hst => ?_)
        replace hst : St M w0 92 [(8, ti (IntKind.i64.wrap (s30.1 + (1:Int)))), (5, tv v58), (4, ti (IntKind.i64.wrap ((1:Int) + t13))), (0, tsl rI l_)] [own rSDiff 71 p56 v58] a w := (hst.pick [2, 3, 4, 5])
        exact hK48 _ _ _ (Option.some.inj h).symm ⟨v58, hst.pick [0, 1, 2, 3]⟩
      replace h := hp56
      clear hp56
      refine wp_test 0 hst rfl (fun b59 => ?_) (fun b59 => ?_)
      · replace h := ite_t b59 h
        obtain ⟨u89, hu89, h⟩ := bind_some h
        refine wp_reg mixed [v1 9 (fun v0 => own rSDiff 71 (s30.2 ++ [(SDiff.mk (IntKind.i64.wrap ((Int.tmod t65 (IntKind.i64.wrap ((IntKind.i64.wrap ((1:Int) + t13)) + (1:Int)))) - (1:Int))) (IntKind.i64.wrap ((Int.tmod (IntKind.i64.wrap (Int.tdiv t65 (8:Int))) (IntKind.i64.wrap ((IntKind.i64.wrap ((1:Int) + t13)) + (1:Int)))) - (1:Int))) (IntKind.i64.wrap ((Int.tmod (IntKind.i64.wrap (Int.tdiv t65 (64:Int))) (11:Int)) - (3:Int))))]) v0)] hst (fun _ => .p rfl (op_move (.t 5 rfl)) <| .p rfl (op_move (.t 3 rfl)) <| .p rfl (op_move (.t 3 rfl)) <| .p rfl (op_move (.t 6 rfl)) <| .p rfl (op_quo (.t 0 rfl) .k (by decide)) <| .p rfl (op_rem (.t 0 rfl) .k (by decide)) <| .p rfl (op_sub (.t 0 rfl) .k) <| .p (T := rSDiff.ty (SDiff.mk (IntKind.i64.wrap ((Int.tmod t65 (IntKind.i64.wrap ((IntKind.i64.wrap ((1:Int) + t13)) + (1:Int)))) - (1:Int))) (IntKind.i64.wrap ((Int.tmod (IntKind.i64.wrap (Int.tdiv t65 (8:Int))) (IntKind.i64.wrap ((IntKind.i64.wrap ((1:Int) + t13)) + (1:Int)))) - (1:Int))) (IntKind.i64.wrap ((Int.tmod (IntKind.i64.wrap (Int.tdiv t65 (64:Int))) (11:Int)) - (3:Int))))) rfl (op_build Try.underlying71 pl71 zv71 zc71 (.cons (R := rI) (u := (IntKind.i64.wrap ((Int.tmod t65 (IntKind.i64.wrap ((IntKind.i64.wrap ((1:Int) + t13)) + (1:Int)))) - (1:Int)))) rfl (.t 5 rfl) (Nat.le_of_ble_eq_true rfl) <| .cons (R := rI) (u := (IntKind.i64.wrap ((Int.tmod (IntKind.i64.wrap (Int.tdiv t65 (8:Int))) (IntKind.i64.wrap ((IntKind.i64.wrap ((1:Int) + t13)) + (1:Int)))) - (1:Int)))) rfl (.t 4 rfl) (Nat.le_of_ble_eq_true rfl) <| .cons (R := rI) (u := (IntKind.i64.wrap ((Int.tmod (IntKind.i64.wrap (Int.tdiv t65 (64:Int))) (11:Int)) - (3:Int)))) rfl (.t 0 rfl) (Nat.le_of_ble_eq_true rfl) <| .nil _)) <| .p rfl (op_buildSl (R := rSDiff) (us := [(SDiff.mk (IntKind.i64.wrap ((Int.tmod t65 (IntKind.i64.wrap ((IntKind.i64.wrap ((1:Int) + t13)) + (1:Int)))) - (1:Int))) (IntKind.i64.wrap ((Int.tmod (IntKind.i64.wrap (Int.tdiv t65 (8:Int))) (IntKind.i64.wrap ((IntKind.i64.wrap ((1:Int) + t13)) + (1:Int)))) - (1:Int))) (IntKind.i64.wrap ((Int.tmod (IntKind.i64.wrap (Int.tdiv t65 (64:Int))) (11:Int)) - (3:Int))))]) Try.underlying48 tok71 (.cons (.t 0 rfl) <| .nil _) rfl (Nat.le_of_ble_eq_true rfl)) <| .e [] [0] [1] rfl rfl rfl rfl (op_append (R := rSDiff) Try.underlying48 tok71 (Nat.le_of_ble_eq_true rfl) (.t 8 rfl) (.t 0 rfl) hu89) <| .ud (f := fun v => tv v) 9 rfl [] rfl rfl (op_assign (.t 0 rfl)) <| .nil _ _) (by kernel_rfl) (fun n18 a w hst => ?_)
        replace hst : St M w0 92 [(89, tv (n18 9)), (5, tv (n18 9)), (8, ti s30.1), (4, ti (IntKind.i64.wrap ((1:Int) + t13))), (0, tsl rI l_)] [own rSDiff 71 (s30.2 ++ [(SDiff.mk (IntKind.i64.wrap ((Int.tmod t65 (IntKind.i64.wrap ((IntKind.i64.wrap ((1:Int) + t13)) + (1:Int)))) - (1:Int))) (IntKind.i64.wrap ((Int.tmod (IntKind.i64.wrap (Int.tdiv t65 (8:Int))) (IntKind.i64.wrap ((IntKind.i64.wrap ((1:Int) + t13)) + (1:Int)))) - (1:Int))) (IntKind.i64.wrap ((Int.tmod (IntKind.i64.wrap (Int.tdiv t65 (64:Int))) (11:Int)) - (3:Int))))]) (n18 9)] a w := (hst.pick [9, 10, 15, 16, 17])
        obtain rfl := Option.some.inj h
        exact hJp56 (n18 9) _ _ (hst.pick [1, 2, 3, 4])
      · replace h := ite_f b59 h
        refine wp_skip ?_
        obtain rfl := Option.some.inj h
        exact hJp56 v31 _ _ (hst.pick [5, 4, 6, 7])
    · replace h := ite_f b60 h
      refine wp_exit ?_
      exact hJp45 _ v31 _ _ (ho _ (Option.some.inj h).symm) (hst.pick [2, 3])
  refine wp_block ?_
  refine wp_loopK _ (fun (s7 : Int × List SDiff) a w => ∃ v8 : Value, St M w0 92 [(6, ti s7.1), (5, tv v8), (4, ti (IntKind.i64.wrap ((1:Int) + t13))), (0, tsl rI l_)] [own rSDiff 71 s7.2 v8] a w) _ _ he9 ⟨(.slice none 0 0), hst.pick [0, 1, 2, 3]⟩ ?_
  clear h
  intro s7 o a w K61 hI h ho hK61
  obtain ⟨v8, hst⟩ := hI
  refine wp_seq_k (fun K62 hK62 => ?_)
  refine wp_seq_k (fun K63 hK63 => ?_)
  refine wp_reg mixed [] hst (fun _ => .p rfl (op_move (.t 0 rfl)) <| .p rfl (op_move (.t 3 rfl)) <| .p rfl (op_lss (.t 1 rfl) (.t 0 rfl)) <| .nil _ _) (by kernel_rfl) (fun n4 a w hst => ?_)
  replace hst : St M w0 92 [(17, tb (decide (s7.1 < (IntKind.i64.wrap ((1:Int) + t13))))), (6, ti s7.1), (5, tv v8), (4, ti (IntKind.i64.wrap ((1:Int) + t13))), (0, tsl rI l_)] [own rSDiff 71 s7.2 v8] a w := (hst.pick [2, 3, 4, 5, 6])
  refine hK63 _ _ ?_
  try clear hK63 K63
  refine wp_test 0 hst rfl (fun b77 => ?_) (fun b77 => ?_)
  · replace h := ite_t b77 h
    refine wp_skip ?_
    refine hK62 _ _ ?_
    try clear hK62 K62
    refine wp_seq_k (fun K64 hK64 => ?_)
    refine wp_block ?_
    refine wp_seq_k (fun K65 hK65 => ?_)
    obtain ⟨t23, ht23, h⟩ := bind_some h
    refine wp_reg mixed [] hst (fun _ => .p rfl (op_move (.t 4 rfl)) <| .p rfl (op_move (.t 2 rfl)) <| .p rfl (op_add .k (.t 0 rfl)) <| .p rfl (op_callF call44 (At_ok ht23) (.cons (.of (.t 2 rfl)) <| .cons (.of (.t 0 rfl)) <| .cons (.of .k) <| .nil)) <| .p rfl (op_sub (.t 0 rfl) .k) <| .p rfl (op_assign (.t 0 rfl)) <| .nil _ _) (by kernel_rfl) (fun n6 a w hst => ?_)
    replace hst : St M w0 92 [(7, ti (IntKind.i64.wrap (t23 - (4:Int)))), (6, ti s7.1), (5, tv v8), (4, ti (IntKind.i64.wrap ((1:Int) + t13))), (0, tsl rI l_)] [own rSDiff 71 s7.2 v8] a w := (hst.pick [5, 7, 8, 9, 10])
    refine hK65 _ _ ?_
    try clear hK65 K65
    refine wp_seq_k (fun K66 hK66 => ?_)
    refine wp_seq_k (fun K67 hK67 => ?_)
    obtain ⟨t28, ht28, h⟩ := bind_some h
    refine wp_reg mixed [] hst (fun _ => .p rfl (op_move (.t 4 rfl)) <| .p rfl (op_move (.t 2 rfl)) <| .p rfl (op_add .k (.t 0 rfl)) <| .p rfl (op_callF call44 (At_ok ht28) (.cons (.of (.t 2 rfl)) <| .cons (.of (.t 0 rfl)) <| .cons (.of .k) <| .nil)) <| .p rfl (op_gtr (.t 0 rfl) .k) <| .nil _ _) (by kernel_rfl) (fun n7 a w hst => ?_)
    replace hst : St M w0 92 [(29, tb (decide (t28 > (0:Int)))), (7, ti (IntKind.i64.wrap (t23 - (4:Int)))), (6, ti s7.1), (5, tv v8), (4, ti (IntKind.i64.wrap ((1:Int) + t13))), (0, tsl rI l_)] [own rSDiff 71 s7.2 v8] a w := (hst.pick [4, 5, 6, 7, 8, 9])
    refine hK67 _ _ ?_
    try clear hK67 K67
    obtain ⟨p68, hp68, h⟩ := bind_some h
    have hJp68 : ∀ (v70 : Value) a w, St M w0 92 [(5, tv v70), (7, ti (IntKind.i64.wrap (t23 - (4:Int)))), (6, ti s7.1), (4, ti (IntKind.i64.wrap ((1:Int) + t13))), (0, tsl rI l_)] [own rSDiff 71 p68 v70] a w → K66 a w := by
      intro v70 a w hst
      refine hK66 _ _ ?_
      try clear hK66 K66
      refine wp_seq_k (fun K71 hK71 => ?_)
      obtain ⟨t40, ht40, h⟩ := bind_some h
      refine wp_reg mixed [] hst (fun _ => .p rfl (op_move (.t 4 rfl)) <| .p rfl (op_move (.t 3 rfl)) <| .p rfl (op_add .k (.t 0 rfl)) <| .p rfl (op_callF call44 (At_ok ht40) (.cons (.of (.t 2 rfl)) <| .cons (.of (.t 0 rfl)) <| .cons (.of .k) <| .nil)) <| .p rfl (op_gtr (.t 0 rfl) .k) <| .nil _ _) (by kernel_rfl) (fun n9 a w hst => ?_)
      replace hst : St M w0 92 [(41, tb (decide (t40 > (0:Int)))), (5, tv v70), (7, ti (IntKind.i64.wrap (t23 - (4:Int)))), (6, ti s7.1), (4, ti (IntKind.i64.wrap ((1:Int) + t13))), (0, tsl rI l_)] [own rSDiff 71 p68 v70] a w := (hst.pick [4, 5, 6, 7, 8, 9])
      refine hK71 _ _ ?_
      try clear hK71 K71
      obtain ⟨p72, hp72, h⟩ := bind_some h
      have hJp72 : ∀ (v74 : Value) a w, St M w0 92 [(5, tv v74), (6, ti s7.1), (4, ti (IntKind.i64.wrap ((1:Int) + t13))), (0, tsl rI l_)] [own rSDiff 71 p72 v74] a w → K64 a w := by
        intro v74 a w hst
        refine hK64 _ _ ?_
        try clear hK64 K64
        refine wp_reg mixed [] hst (fun _ => .p rfl (op_move (.t 1 rfl)) <| .p rfl (op_add (.t 0 rfl) .k) <| .p rfl (op_assign (.t 0 rfl)) <| .nil _ _) (by kernel_rfl) (fun n5 a w hst => ?_)
        replace hst : St M w0 92 [(6, ti (IntKind.i64.wrap (s7.1 + (1:Int)))), (5, tv v74), (4, ti (IntKind.i64.wrap ((1:Int) + t13))), (0, tsl rI l_)] [own rSDiff 71 p72 v74] a w := (hst.pick [2, 3, 4, 5])
        exact hK61 _ _ _ (Option.some.inj h).symm ⟨v74, hst.pick [0, 1, 2, 3]⟩
      replace h := hp72
      clear hp72
      refine wp_test 0 hst rfl (fun b75 => ?_) (fun b75 => ?_)
      · replace h := ite_t b75 h
        obtain ⟨t48, ht48, h⟩ := bind_some h
        obtain ⟨u52, hu52, h⟩ := bind_some h
        refine wp_reg mixed [v1 10 (fun v0 => own rSDiff 71 (p68 ++ [(SDiff.mk s7.1 (-1:Int) (IntKind.i64.wrap ((IntKind.i64.wrap (t23 - (4:Int))) + t48)))]) v0)] hst (fun _ => .p rfl (op_move (.t 1 rfl)) <| .p rfl (op_move (.t 4 rfl)) <| .p rfl (op_move (.t 4 rfl)) <| .p rfl (op_move (.t 8 rfl)) <| .p rfl (op_move (.t 7 rfl)) <| .p rfl (op_add .k (.t 0 rfl)) <| .p rfl (op_callF call44 (At_ok ht48) (.cons (.of (.t 2 rfl)) <| .cons (.of (.t 0 rfl)) <| .cons (.of .k) <| .nil)) <| .p rfl (op_add (.t 4 rfl) (.t 0 rfl)) <| .p (T := rSDiff.ty (SDiff.mk s7.1 (-1:Int) (IntKind.i64.wrap ((IntKind.i64.wrap (t23 - (4:Int))) + t48)))) rfl (op_build Try.underlying71 pl71 zv71 zc71 (.cons (R := rI) (u := s7.1) rfl (.t 6 rfl) (Nat.le_of_ble_eq_true rfl) <| .cons (R := rI) (u := (-1:Int)) rfl .k (Nat.le_of_ble_eq_true rfl) <| .cons (R := rI) (u := (IntKind.i64.wrap ((IntKind.i64.wrap (t23 - (4:Int))) + t48))) rfl (.t 0 rfl) (Nat.le_of_ble_eq_true rfl) <| .nil _)) <| .p rfl (op_buildSl (R := rSDiff) (us := [(SDiff.mk s7.1 (-1:Int) (IntKind.i64.wrap ((IntKind.i64.wrap (t23 - (4:Int))) + t48)))]) Try.underlying48 tok71 (.cons (.t 0 rfl) <| .nil _) rfl (Nat.le_of_ble_eq_true rfl)) <| .e [] [0] [1] rfl rfl rfl rfl (op_append (R := rSDiff) Try.underlying48 tok71 (Nat.le_of_ble_eq_true rfl) (.t 9 rfl) (.t 0 rfl) hu52) <| .ud (f := fun v => tv v) 10 rfl [] rfl rfl (op_assign (.t 0 rfl)) <| .nil _ _) (by kernel_rfl) (fun n10 a w hst => ?_)
        replace hst : St M w0 92 [(52, tv (n10 10)), (5, tv (n10 10)), (6, ti s7.1), (4, ti (IntKind.i64.wrap ((1:Int) + t13))), (0, tsl rI l_)] [own rSDiff 71 (p68 ++ [(SDiff.mk s7.1 (-1:Int) (IntKind.i64.wrap ((IntKind.i64.wrap (t23 - (4:Int))) + t48)))]) (n10 10)] a w := (hst.pick [10, 11, 14, 15, 16])
        obtain rfl := Option.some.inj h
        exact hJp72 (n10 10) _ _ (hst.pick [1, 2, 3, 4])
      · replace h := ite_f b75 h
        refine wp_skip ?_
        obtain rfl := Option.some.inj h
        exact hJp72 v70 _ _ (hst.pick [1, 3, 4, 5])
    replace h := hp68
    clear hp68
    refine wp_test 0 hst rfl (fun b76 => ?_) (fun b76 => ?_)
    · replace h := ite_t b76 h
      obtain ⟨u36, hu36, h⟩ := bind_some h
      refine wp_reg mixed [v1 6 (fun v0 => own rSDiff 71 (s7.2 ++ [(SDiff.mk (-1:Int) s7.1 (IntKind.i64.wrap (0 - (IntKind.i64.wrap (t23 - (4:Int))))))]) v0)] hst (fun _ => .p rfl (op_move (.t 3 rfl)) <| .p rfl (op_move (.t 3 rfl)) <| .p rfl (op_move (.t 3 rfl)) <| .p rfl (op_neg (.t 0 rfl)) <| .p (T := rSDiff.ty (SDiff.mk (-1:Int) s7.1 (IntKind.i64.wrap (0 - (IntKind.i64.wrap (t23 - (4:Int))))))) rfl (op_build Try.underlying71 pl71 zv71 zc71 (.cons (R := rI) (u := (-1:Int)) rfl .k (Nat.le_of_ble_eq_true rfl) <| .cons (R := rI) (u := s7.1) rfl (.t 2 rfl) (Nat.le_of_ble_eq_true rfl) <| .cons (R := rI) (u := (IntKind.i64.wrap (0 - (IntKind.i64.wrap (t23 - (4:Int)))))) rfl (.t 0 rfl) (Nat.le_of_ble_eq_true rfl) <| .nil _)) <| .p rfl (op_buildSl (R := rSDiff) (us := [(SDiff.mk (-1:Int) s7.1 (IntKind.i64.wrap (0 - (IntKind.i64.wrap (t23 - (4:Int))))))]) Try.underlying48 tok71 (.cons (.t 0 rfl) <| .nil _) rfl (Nat.le_of_ble_eq_true rfl)) <| .e [] [0] [1] rfl rfl rfl rfl (op_append (R := rSDiff) Try.underlying48 tok71 (Nat.le_of_ble_eq_true rfl) (.t 5 rfl) (.t 0 rfl) hu36) <| .ud (f := fun v => tv v) 6 rfl [] rfl rfl (op_assign (.t 0 rfl)) <| .nil _ _) (by kernel_rfl) (fun n8 a w hst => ?_)
      replace hst : St M w0 92 [(36, tv (n8 6)), (5, tv (n8 6)), (7, ti (IntKind.i64.wrap (t23 - (4:Int)))), (6, ti s7.1), (4, ti (IntKind.i64.wrap ((1:Int) + t13))), (0, tsl rI l_)] [own rSDiff 71 (s7.2 ++ [(SDiff.mk (-1:Int) s7.1 (IntKind.i64.wrap (0 - (IntKind.i64.wrap (t23 - (4:Int))))))]) (n8 6)] a w := (hst.pick [6, 7, 9, 10, 11, 12])
      obtain rfl := Option.some.inj h
      exact hJp68 (n8 6) _ _ (hst.pick [1, 2, 3, 4, 5])
    · replace h := ite_f b76 h
      refine wp_skip ?_
      obtain rfl := Option.some.inj h
      exact hJp68 v8 _ _ (hst.pick [3, 1, 2, 4, 5])
  · replace h := ite_f b77 h
    refine wp_exit ?_
    exact hJp26 _ v8 _ _ (ho _ (Option.some.inj h).symm) (hst.pick [2, 3, 4])

/- diorama/dioramaref14.Bent -/
noncomputable def fBent (l_ : (List SDiff)) (at_ : Int) (how_ : Int) (by_ : Int) : Option ((List SDiff)) := (rm (([] : List SDiff).length + l_.length)).bind fun _ => (if (((([] : List SDiff) ++ l_).length : Int) == (0:Int)) = true then (fAround by_ (5:Int)).bind fun t18 => (fAround by_ (8388608:Int)).bind fun t21 => (some [(SDiff.mk (IntKind.i64.wrap (t18 - (2:Int))) (0:Int) (IntKind.i64.wrap (t21 - (4194304:Int))))]) else (fAround at_ ((([] : List SDiff) ++ l_).length : Int)).bind fun t28 => (fAround how_ (6:Int)).bind fun t30 => ((if (t30 == (0:Int)) = true then (fAround by_ (9:Int)).bind fun t44 => (idx (([] : List SDiff) ++ l_) t28).bind fun t46 => (setAt (([] : List SDiff) ++ l_) t28 { t46 with A := (IntKind.i64.wrap (t44 - (2:Int))) }).bind fun t46s => (some t46s) else ((if (t30 == (1:Int)) = true then (fAround by_ (9:Int)).bind fun t53 => (idx (([] : List SDiff) ++ l_) t28).bind fun t55 => (setAt (([] : List SDiff) ++ l_) t28 { t55 with B := (IntKind.i64.wrap (t53 - (2:Int))) }).bind fun t55s => (some t55s) else ((if (t30 == (2:Int)) = true then (fAround by_ (6:Int)).bind fun t63 => (idx [(-2097152:Int), (2097152:Int), (-2097153:Int), (2097153:Int), (0:Int), (-5:Int)] t63).bind fun t64 => (idx (([] : List SDiff) ++ l_) t28).bind fun t66 => (setAt (([] : List SDiff) ++ l_) t28 { t66 with N := t64 }).bind fun t66s => (some t66s) else ((if (t30 == (3:Int)) = true then (idx (([] : List SDiff) ++ l_) t28).bind fun t73 => (rm ((([] : List SDiff) ++ l_).length + [t73].length)).bind fun _ => (some ((([] : List SDiff) ++ l_) ++ [t73])) else ((if (t30 == (4:Int)) = true then (tailrec (fun (s535 : List SDiff) => ((fAround by_ (3:Int)).bind fun t82 => (if (decide ((s535.length : Int) < (IntKind.i64.wrap ((63:Int) + t82)))) = true then (idx s535 t28).bind fun t88 => (rm (s535.length + [t88].length)).bind fun _ => (some (.inl (s535 ++ [t88]))) else (some (.inr s535))) : Option ((List SDiff) ⊕ ((List SDiff))))) (([] : List SDiff) ++ l_)).bind fun (p541 : (List SDiff)) => (some p541) else (sub (([] : List SDiff) ++ l_) (0:Int) t28).bind fun t33 => (sub (([] : List SDiff) ++ l_) (IntKind.i64.wrap (t28 + (1:Int))) ((([] : List SDiff) ++ l_).length : Int)).bind fun t37 => (rm (t33.length + t37.length)).bind fun _ => (some (t33 ++ t37)))).bind fun (p520 : List SDiff) => (some p520))).bind fun (p487 : List SDiff) => (some p487))).bind fun (p420 : List SDiff) => (some p420))).bind fun (p285 : List SDiff) => (some p285))).bind fun (p13 : List SDiff) => (some p13))
set_option maxRecDepth 100000 in
set_option maxHeartbeats 4000000 in
theorem Bent_ok {l_ : (List SDiff)} {at_ : Int} {how_ : Int} {by_ : Int} {r : (List SDiff)} (h : fBent l_ at_ how_ by_ = some r) : FnOk Try.prog 30 [tsl rSDiff l_, ti at_, ti how_, ti by_] [] (fun v => [own rSDiff 71 r v]) (fun v => tv v) := by
  unfold fBent at h
  refine FnOk.enter Try.func30 rfl Try.ntmps30 (Nat.le_of_ble_eq_true rfl) (fun M0 M w0 a hpl hst => ?_)
  replace hst : St M w0 93 [(0, tsl rSDiff l_), (1, ti at_), (2, ti how_), (3, ti by_)] [] a w0 := hst
  refine wp_seq_k (fun K1 hK1 => ?_)
  refine wp_reg mixed [] hst (fun _ => .p rfl (op_assign .k) <| .nil _ _) (by kernel_rfl) (fun n0 a w hst => ?_)
  replace hst : St M w0 93 [(0, tsl rSDiff l_), (1, ti at_), (2, ti how_), (3, ti by_)] [] a w := (hst.pick [1, 2, 3, 4])
  refine hK1 _ _ ?_
  try clear hK1 K1
  refine wp_seq_k (fun K2 hK2 => ?_)
  refine wp_reg mixed [] hst (fun _ => .p rfl (op_assign .k) <| .nil _ _) (by kernel_rfl) (fun n1 a w hst => ?_)
  replace hst : St M w0 93 [(9, tv (.slice none 0 0)), (0, tsl rSDiff l_), (1, ti at_), (2, ti how_), (3, ti by_)] [own rSDiff 71 ([] : List SDiff) (.slice none 0 0)] a w := ((hst.pick [0, 1, 2, 3, 4]).nil (rSDiff) 71)
  refine hK2 _ _ ?_
  try clear hK2 K2
  refine wp_seq_k (fun K4 hK4 => ?_)
  obtain ⟨u13, hu13, h⟩ := bind_some h
  refine wp_reg mixed [v1 2 (fun v0 => own rSDiff 71 (([] : List SDiff) ++ l_) v0)] hst (fun _ => .p rfl (op_move (.t 0 rfl)) <| .p rfl (op_move (.t 2 rfl)) <| .e [] [0] [1] rfl rfl rfl rfl (op_append (R := rSDiff) Try.underlying48 tok71 (Nat.le_of_ble_eq_true rfl) (.t 1 rfl) (.t 0 rfl) hu13) <| .ud (f := fun v => tv v) 2 rfl [] rfl rfl (op_assign (.t 0 rfl)) <| .nil _ _) (by kernel_rfl) (fun n2 a w hst => ?_)
  replace hst : St M w0 93 [(13, tv (n2 2)), (9, tv (n2 2)), (1, ti at_), (2, ti how_), (3, ti by_)] [own rSDiff 71 (([] : List SDiff) ++ l_) (n2 2)] a w := (hst.pick [2, 3, 5, 6, 7])
  refine hK4 _ _ ?_
  try clear hK4 K4
  refine wp_seq_k (fun K5 hK5 => ?_)
  refine wp_seq_k (fun K6 hK6 => ?_)
  refine wp_reg mixed [] hst (fun _ => .p rfl (op_move (.t 1 rfl)) <| .u [0] rfl rfl (op_lenO Try.underlying48 (.t 0 rfl)) <| .p rfl (op_eql (.t 0 rfl) .k) <| .nil _ _) (by kernel_rfl) (fun n3 a w hst => ?_)
  replace hst : St M w0 93 [(14, tv (n2 2)), (16, tb (((([] : List SDiff) ++ l_).length : Int) == (0:Int))), (13, tv (n2 2)), (9, tv (n2 2)), (1, ti at_), (2, ti how_), (3, ti by_)] [own rSDiff 71 (([] : List SDiff) ++ l_) (n2 2)] a w := (hst.pick [0, 2, 3, 4, 5, 6, 7])
  refine hK6 _ _ ?_
  try clear hK6 K6
  refine wp_test 1 hst rfl (fun b552 => ?_) (fun b552 => ?_)
  · replace h := ite_t b552 h
    refine wp_seq_k (fun K7 hK7 => ?_)
    obtain ⟨t18, ht18, h⟩ := bind_some h
    obtain ⟨t21, ht21, h⟩ := bind_some h
    refine wp_reg mixed [v1 7 (fun v0 => own rSDiff 71 [(SDiff.mk (IntKind.i64.wrap (t18 - (2:Int))) (0:Int) (IntKind.i64.wrap (t21 - (4194304:Int))))] v0)] hst (fun _ => .p rfl (op_move (.t 6 rfl)) <| .p rfl (op_callF call13 (Around_ok ht18) (.cons (.of (.t 0 rfl)) <| .cons (.of .k) <| .nil)) <| .p rfl (op_sub (.t 0 rfl) .k) <| .p rfl (op_move (.t 9 rfl)) <| .p rfl (op_callF call13 (Around_ok ht21) (.cons (.of (.t 0 rfl)) <| .cons (.of .k) <| .nil)) <| .p rfl (op_sub (.t 0 rfl) .k) <| .p (T := rSDiff.ty (SDiff.mk (IntKind.i64.wrap (t18 - (2:Int))) (0:Int) (IntKind.i64.wrap (t21 - (4194304:Int))))) rfl (op_build Try.underlying71 pl71 zv71 zc71 (.cons (R := rI) (u := (IntKind.i64.wrap (t18 - (2:Int)))) rfl (.t 3 rfl) (Nat.le_of_ble_eq_true rfl) <| .cons (R := rI) (u := (0:Int)) rfl .k (Nat.le_of_ble_eq_true rfl) <| .cons (R := rI) (u := (IntKind.i64.wrap (t21 - (4194304:Int)))) rfl (.t 0 rfl) (Nat.le_of_ble_eq_true rfl) <| .nil _)) <| .m [] [1] rfl rfl rfl (op_buildSlO (R := rSDiff) (us := [(SDiff.mk (IntKind.i64.wrap (t18 - (2:Int))) (0:Int) (IntKind.i64.wrap (t21 - (4194304:Int))))]) Try.underlying48 tok71 (.cons (.t 0 rfl) <| .nil _) rfl (Nat.le_of_ble_eq_true rfl) (Nat.le_of_ble_eq_true rfl)) <| .ud (f := fun v => tv v) 7 rfl [] rfl rfl (op_assign (.t 0 rfl)) <| .nil _ _) (by kernel_rfl) (fun n4 a w hst => ?_)
    replace hst : St M w0 93 [(24, tv (n4 7)), (8, tv (n4 7)), (14, tv (n2 2)), (13, tv (n2 2)), (9, tv (n2 2))] [own rSDiff 71 (([] : List SDiff) ++ l_) (n2 2), own rSDiff 71 [(SDiff.mk (IntKind.i64.wrap (t18 - (2:Int))) (0:Int) (IntKind.i64.wrap (t21 - (4194304:Int))))] (n4 7)] a w := (hst.pick [7, 8, 9, 11, 12])
    refine hK7 _ _ ?_
    try clear hK7 K7
    refine wp_ret ?_
    obtain rfl := Option.some.inj h
    exact ret_st (n4 7) [1] hpl hst rfl (.tmp (.t 1 rfl) .nil) rfl rfl rfl
  · replace h := ite_f b552 h
    refine wp_skip ?_
    refine hK5 _ _ ?_
    try clear hK5 K5
    refine wp_seq_k (fun K9 hK9 => ?_)
    obtain ⟨t28, ht28, h⟩ := bind_some h
    refine wp_reg mixed [] hst (fun _ => .p rfl (op_move (.t 4 rfl)) <| .p rfl (op_move (.t 4 rfl)) <| .u [0] rfl rfl (op_lenO Try.underlying48 (.t 0 rfl)) <| .p rfl (op_callF call13 (Around_ok ht28) (.cons (.of (.t 2 rfl)) <| .cons (.of (.t 0 rfl)) <| .nil)) <| .p rfl (op_assign (.t 0 rfl)) <| .nil _ _) (by kernel_rfl) (fun n5 a w hst => ?_)
    replace hst : St M w0 93 [(26, tv (n2 2)), (10, ti t28), (14, tv (n2 2)), (13, tv (n2 2)), (9, tv (n2 2)), (2, ti how_), (3, ti by_)] [own rSDiff 71 (([] : List SDiff) ++ l_) (n2 2)] a w := (hst.pick [1, 4, 5, 7, 8, 10, 11])
    refine hK9 _ _ ?_
    try clear hK9 K9
    refine wp_seq_k (fun K10 hK10 => ?_)
    refine wp_seq_k (fun K11 hK11 => ?_)
    obtain ⟨t30, ht30, h⟩ := bind_some h
    refine wp_reg mixed [] hst (fun _ => .p rfl (op_move (.t 5 rfl)) <| .p rfl (op_callF call13 (Around_ok ht30) (.cons (.of (.t 0 rfl)) <| .cons (.of .k) <| .nil)) <| .nil _ _) (by kernel_rfl) (fun n6 a w hst => ?_)
    replace hst : St M w0 93 [(30, ti t30), (26, tv (n2 2)), (10, ti t28), (14, tv (n2 2)), (13, tv (n2 2)), (9, tv (n2 2)), (3, ti by_)] [own rSDiff 71 (([] : List SDiff) ++ l_) (n2 2)] a w := (hst.pick [1, 2, 3, 4, 5, 6, 8])
    refine hK11 _ _ ?_
    try clear hK11 K11
    refine wp_block ?_
    refine wp_seq_k (fun K12 hK12 => ?_)
    refine wp_reg mixed [] hst (fun _ => .p rfl (op_eql (.t 0 rfl) .k) <| .p rfl (op_assign (.t 0 rfl)) <| .nil _ _) (by kernel_rfl) (fun n8 a w hst => ?_)
    replace hst : St M w0 93 [(39, tb (t30 == (0:Int))), (30, ti t30), (26, tv (n2 2)), (10, ti t28), (14, tv (n2 2)), (13, tv (n2 2)), (9, tv (n2 2)), (3, ti by_)] [own rSDiff 71 (([] : List SDiff) ++ l_) (n2 2)] a w := (hst.pick [1, 2, 3, 4, 5, 6, 7, 8])
    refine hK12 _ _ ?_
    try clear hK12 K12
    obtain ⟨p13, hp13, h⟩ := bind_some h
    have hJp13 : ∀ (v282 : Value) a w, St M w0 93 [(9, tv v282)] [own rSDiff 71 p13 v282] a w → K10 a w := by
      intro v282 a w hst
      refine hK10 _ _ ?_
      try clear hK10 K10
      refine wp_seq_k (fun K283 hK283 => ?_)
      refine wp_reg mixed [] hst (fun _ => .p rfl (op_move (.t 0 rfl)) <| .p rfl (op_assign (.t 0 rfl)) <| .nil _ _) (by kernel_rfl) (fun n19 a w hst => ?_)
      replace hst : St M w0 93 [(92, tv v282), (8, tv v282), (9, tv v282)] [own rSDiff 71 p13 v282] a w := (hst.pick [0, 1, 2])
      refine hK283 _ _ ?_
      try clear hK283 K283
      refine wp_ret ?_
      obtain rfl := Option.some.inj h
      exact ret_st v282 [0] hpl hst rfl (.tmp (.t 1 rfl) .nil) rfl rfl rfl
    replace h := hp13
    clear hp13
    refine wp_test 0 hst rfl (fun b551 => ?_) (fun b551 => ?_)
    · replace h := ite_t b551 h
      obtain ⟨t44, ht44, h⟩ := bind_some h
      obtain ⟨t46, ht46, h⟩ := bind_some h
      obtain ⟨t46s, ht46s, h⟩ := bind_some h
      refine wp_reg mixed [v0 (own rSDiff 71 t46s (n2 2))] hst (fun _ => .p rfl (op_move (.t 6 rfl)) <| .p rfl (op_move (.t 4 rfl)) <| .p rfl (op_move (.t 9 rfl)) <| .p rfl (op_callF call13 (Around_ok ht44) (.cons (.of (.t 0 rfl)) <| .cons (.of .k) <| .nil)) <| .p rfl (op_sub (.t 0 rfl) .k) <| .u [0] rfl rfl (op_indexOi Try.underlying48 tok71 (.t 4 rfl) (.t 3 rfl) ht46) <| .u [0] rfl rfl (op_fieldO fld71_0 (.t 0 rfl) (idx_ne ht46)) <| .e [] [0] [1] rfl rfl rfl rfl (op_storeOf (u := { t46 with A := (IntKind.i64.wrap (t44 - (2:Int))) }) tok3 (.t 0 rfl) (.t 2 rfl) ht46 ht46s (Nat.le_of_ble_eq_true rfl) rfl) <| .nil _ _) (by kernel_rfl) (fun n9 a w hst => ?_)
      replace hst : St M w0 93 [(41, tv (n2 2)), (26, tv (n2 2)), (14, tv (n2 2)), (13, tv (n2 2)), (9, tv (n2 2))] [own rSDiff 71 t46s (n2 2)] a w := (hst.pick [0, 9, 11, 12, 13])
      obtain rfl := Option.some.inj h
      exact hJp13 (n2 2) _ _ (hst.pick [4])
    · replace h := ite_f b551 h
      refine wp_seq_k (fun K284 hK284 => ?_)
      refine wp_reg mixed [] hst (fun _ => .p rfl (op_eql (.t 1 rfl) .k) <| .p rfl (op_assign (.t 0 rfl)) <| .nil _ _) (by kernel_rfl) (fun n10 a w hst => ?_)
      replace hst : St M w0 93 [(48, tb (t30 == (1:Int))), (30, ti t30), (26, tv (n2 2)), (10, ti t28), (14, tv (n2 2)), (13, tv (n2 2)), (9, tv (n2 2)), (3, ti by_)] [own rSDiff 71 (([] : List SDiff) ++ l_) (n2 2)] a w := (hst.pick [1, 3, 4, 5, 6, 7, 8, 9])
      refine hK284 _ _ ?_
      try clear hK284 K284
      obtain ⟨p285, hp285, h⟩ := bind_some h
      have hJp285 : ∀ (v418 : Value) a w, St M w0 93 [(9, tv v418)] [own rSDiff 71 p285 v418] a w → K10 a w := by
        intro v418 a w hst
        obtain rfl := Option.some.inj h
        exact hJp13 v418 _ _ (hst.pick [0])
      replace h := hp285
      clear hp285
      refine wp_test 0 hst rfl (fun b550 => ?_) (fun b550 => ?_)
      · replace h := ite_t b550 h
        obtain ⟨t53, ht53, h⟩ := bind_some h
        obtain ⟨t55, ht55, h⟩ := bind_some h
        obtain ⟨t55s, ht55s, h⟩ := bind_some h
        refine wp_reg mixed [v0 (own rSDiff 71 t55s (n2 2))] hst (fun _ => .p rfl (op_move (.t 6 rfl)) <| .p rfl (op_move (.t 4 rfl)) <| .p rfl (op_move (.t 9 rfl)) <| .p rfl (op_callF call13 (Around_ok ht53) (.cons (.of (.t 0 rfl)) <| .cons (.of .k) <| .nil)) <| .p rfl (op_sub (.t 0 rfl) .k) <| .u [0] rfl rfl (op_indexOi Try.underlying48 tok71 (.t 4 rfl) (.t 3 rfl) ht55) <| .u [0] rfl rfl (op_fieldO fld71_1 (.t 0 rfl) (idx_ne ht55)) <| .e [] [0] [1] rfl rfl rfl rfl (op_storeOf (u := { t55 with B := (IntKind.i64.wrap (t53 - (2:Int))) }) tok3 (.t 0 rfl) (.t 2 rfl) ht55 ht55s (Nat.le_of_ble_eq_true rfl) rfl) <| .nil _ _) (by kernel_rfl) (fun n11 a w hst => ?_)
        replace hst : St M w0 93 [(50, tv (n2 2)), (26, tv (n2 2)), (14, tv (n2 2)), (13, tv (n2 2)), (9, tv (n2 2))] [own rSDiff 71 t55s (n2 2)] a w := (hst.pick [0, 9, 11, 12, 13])
        obtain rfl := Option.some.inj h
        exact hJp285 (n2 2) _ _ (hst.pick [4])
      · replace h := ite_f b550 h
        refine wp_seq_k (fun K419 hK419 => ?_)
        refine wp_reg mixed [] hst (fun _ => .p rfl (op_eql (.t 1 rfl) .k) <| .p rfl (op_assign (.t 0 rfl)) <| .nil _ _) (by kernel_rfl) (fun n12 a w hst => ?_)
        replace hst : St M w0 93 [(57, tb (t30 == (2:Int))), (30, ti t30), (26, tv (n2 2)), (10, ti t28), (14, tv (n2 2)), (13, tv (n2 2)), (9, tv (n2 2)), (3, ti by_)] [own rSDiff 71 (([] : List SDiff) ++ l_) (n2 2)] a w := (hst.pick [1, 3, 4, 5, 6, 7, 8, 9])
        refine hK419 _ _ ?_
        try clear hK419 K419
        obtain ⟨p420, hp420, h⟩ := bind_some h
        have hJp420 : ∀ (v485 : Value) a w, St M w0 93 [(9, tv v485)] [own rSDiff 71 p420 v485] a w → K10 a w := by
          intro v485 a w hst
          obtain rfl := Option.some.inj h
          exact hJp285 v485 _ _ (hst.pick [0])
        replace h := hp420
        clear hp420
        refine wp_test 0 hst rfl (fun b549 => ?_) (fun b549 => ?_)
        · replace h := ite_t b549 h
          obtain ⟨t63, ht63, h⟩ := bind_some h
          obtain ⟨t64, ht64, h⟩ := bind_some h
          obtain ⟨t66, ht66, h⟩ := bind_some h
          obtain ⟨t66s, ht66s, h⟩ := bind_some h
          refine wp_reg mixed [v0 (own rSDiff 71 t66s (n2 2))] hst (fun _ => .p rfl (op_move (.t 6 rfl)) <| .p rfl (op_move (.t 4 rfl)) <| .p rfl (op_buildSl (R := rI) (us := [(-2097152:Int), (2097152:Int), (-2097153:Int), (2097153:Int), (0:Int), (-5:Int)]) Try.underlying22 tok3 (.cons .k <| .cons .k <| .cons .k <| .cons .k <| .cons .k <| .cons .k <| .nil _) rfl (Nat.le_of_ble_eq_true rfl)) <| .p rfl (op_move (.t 10 rfl)) <| .p rfl (op_callF call13 (Around_ok ht63) (.cons (.of (.t 0 rfl)) <| .cons (.of .k) <| .nil)) <| .p rfl (op_index Try.underlying22 tok3 (.t 2 rfl) (.t 0 rfl) ht64) <| .p rfl (op_load tok3 (.t 0 rfl)) <| .u [0] rfl rfl (op_indexOi Try.underlying48 tok71 (.t 6 rfl) (.t 5 rfl) ht66) <| .u [0] rfl rfl (op_fieldO fld71_2 (.t 0 rfl) (idx_ne ht66)) <| .e [] [0] [1] rfl rfl rfl rfl (op_storeOf (u := { t66 with N := t64 }) tok3 (.t 0 rfl) (.t 2 rfl) ht66 ht66s (Nat.le_of_ble_eq_true rfl) rfl) <| .nil _ _) (by kernel_rfl) (fun n13 a w hst => ?_)
          replace hst : St M w0 93 [(59, tv (n2 2)), (26, tv (n2 2)), (14, tv (n2 2)), (13, tv (n2 2)), (9, tv (n2 2))] [own rSDiff 71 t66s (n2 2)] a w := (hst.pick [0, 11, 13, 14, 15])
          obtain rfl := Option.some.inj h
          exact hJp420 (n2 2) _ _ (hst.pick [4])
        · replace h := ite_f b549 h
          refine wp_seq_k (fun K486 hK486 => ?_)
          refine wp_reg mixed [] hst (fun _ => .p rfl (op_eql (.t 1 rfl) .k) <| .p rfl (op_assign (.t 0 rfl)) <| .nil _ _) (by kernel_rfl) (fun n14 a w hst => ?_)
          replace hst : St M w0 93 [(68, tb (t30 == (3:Int))), (30, ti t30), (26, tv (n2 2)), (10, ti t28), (14, tv (n2 2)), (13, tv (n2 2)), (9, tv (n2 2)), (3, ti by_)] [own rSDiff 71 (([] : List SDiff) ++ l_) (n2 2)] a w := (hst.pick [1, 3, 4, 5, 6, 7, 8, 9])
          refine hK486 _ _ ?_
          try clear hK486 K486
          obtain ⟨p487, hp487, h⟩ := bind_some h
          have hJp487 : ∀ (v518 : Value) a w, St M w0 93 [(9, tv v518)] [own rSDiff 71 p487 v518] a w → K10 a w := by
            intro v518 a w hst
            obtain rfl := Option.some.inj h
            exact hJp420 v518 _ _ (hst.pick [0])
          replace h := hp487
          clear hp487
          refine wp_test 0 hst rfl (fun b548 => ?_) (fun b548 => ?_)
          · replace h := ite_t b548 h
            obtain ⟨t73, ht73, h⟩ := bind_some h
            obtain ⟨u76, hu76, h⟩ := bind_some h
            refine wp_reg mixed [v1 6 (fun v0 => own rSDiff 71 ((([] : List SDiff) ++ l_) ++ [t73]) v0)] hst (fun _ => .p rfl (op_move (.t 6 rfl)) <| .p rfl (op_move (.t 7 rfl)) <| .p rfl (op_move (.t 5 rfl)) <| .u [0] rfl rfl (op_indexOi Try.underlying48 tok71 (.t 1 rfl) (.t 0 rfl) ht73) <| .u [0] rfl rfl (op_loadO tok71 (.t 0 rfl) ht73) <| .p rfl (op_buildSl (R := rSDiff) (us := [t73]) Try.underlying48 tok71 (.cons (.t 0 rfl) <| .nil _) rfl (Nat.le_of_ble_eq_true rfl)) <| .e [] [0] [1] rfl rfl rfl rfl (op_append (R := rSDiff) Try.underlying48 tok71 (Nat.le_of_ble_eq_true rfl) (.t 5 rfl) (.t 0 rfl) hu76) <| .ud (f := fun v => tv v) 6 rfl [] rfl rfl (op_assign (.t 0 rfl)) <| .nil _ _) (by kernel_rfl) (fun n15 a w hst => ?_)
            replace hst : St M w0 93 [(76, tv (n15 6)), (9, tv (n15 6))] [own rSDiff 71 ((([] : List SDiff) ++ l_) ++ [t73]) (n15 6)] a w := (hst.pick [6, 7])
            obtain rfl := Option.some.inj h
            exact hJp487 (n15 6) _ _ (hst.pick [1])
          · replace h := ite_f b548 h
            refine wp_seq_k (fun K519 hK519 => ?_)
            refine wp_reg mixed [] hst (fun _ => .p rfl (op_eql (.t 1 rfl) .k) <| .p rfl (op_assign (.t 0 rfl)) <| .nil _ _) (by kernel_rfl) (fun n16 a w hst => ?_)
            replace hst : St M w0 93 [(77, tb (t30 == (4:Int))), (26, tv (n2 2)), (10, ti t28), (14, tv (n2 2)), (13, tv (n2 2)), (9, tv (n2 2)), (3, ti by_)] [own rSDiff 71 (([] : List SDiff) ++ l_) (n2 2)] a w := (hst.pick [1, 4, 5, 6, 7, 8, 9])
            refine hK519 _ _ ?_
            try clear hK519 K519
            obtain ⟨p520, hp520, h⟩ := bind_some h
            have hJp520 : ∀ (v534 : Value) a w, St M w0 93 [(9, tv v534)] [own rSDiff 71 p520 v534] a w → K10 a w := by
              intro v534 a w hst
              obtain rfl := Option.some.inj h
              exact hJp487 v534 _ _ (hst.pick [0])
            replace h := hp520
            clear hp520
            refine wp_test 0 hst rfl (fun b547 => ?_) (fun b547 => ?_)
            · replace h := ite_t b547 h
              obtain ⟨e537, he537, h⟩ := bind_some h
              have hJp541 : ∀ (p541 : List SDiff) (v542 : Value) a w, p541 = e537 → St M w0 93 [(9, tv v542)] [own rSDiff 71 p541 v542] a w → K10 a w := by
                intro p541 v542 a w he hst
                subst he
                obtain rfl := Option.some.inj h
                exact hJp520 v542 _ _ (hst.pick [0])
              refine wp_block ?_
              refine wp_loopK _ (fun (s535 : List SDiff) a w => ∃ v536 : Value, St M w0 93 [(10, ti t28), (9, tv v536), (3, ti by_)] [own rSDiff 71 s535 v536] a w) _ _ he537 ⟨(n2 2), hst.pick [2, 5, 6]⟩ ?_
              clear h
              intro s535 o a w K543 hI h ho hK543
              obtain ⟨v536, hst⟩ := hI
              refine wp_seq_k (fun K544 hK544 => ?_)
              refine wp_seq_k (fun K545 hK545 => ?_)
              obtain ⟨t82, ht82, h⟩ := bind_some h
              refine wp_reg mixed [] hst (fun _ => .p rfl (op_move (.t 1 rfl)) <| .u [0] rfl rfl (op_lenO Try.underlying48 (.t 0 rfl)) <| .p rfl (op_move (.t 4 rfl)) <| .p rfl (op_callF call13 (Around_ok ht82) (.cons (.of (.t 0 rfl)) <| .cons (.of .k) <| .nil)) <| .p rfl (op_add .k (.t 0 rfl)) <| .p rfl (op_lss (.t 3 rfl) (.t 0 rfl)) <| .nil _ _) (by kernel_rfl) (fun n17 a w hst => ?_)
              replace hst : St M w0 93 [(79, tv v536), (84, tb (decide ((s535.length : Int) < (IntKind.i64.wrap ((63:Int) + t82))))), (10, ti t28), (9, tv v536), (3, ti by_)] [own rSDiff 71 s535 v536] a w := (hst.pick [0, 5, 6, 7, 8])
              refine hK545 _ _ ?_
              try clear hK545 K545
              refine wp_test 1 hst rfl (fun b546 => ?_) (fun b546 => ?_)
              · replace h := ite_t b546 h
                refine wp_skip ?_
                refine hK544 _ _ ?_
                try clear hK544 K544
                refine wp_block ?_
                obtain ⟨t88, ht88, h⟩ := bind_some h
                obtain ⟨u91, hu91, h⟩ := bind_some h
                refine wp_reg mixed [v1 6 (fun v0 => own rSDiff 71 (s535 ++ [t88]) v0)] hst (fun _ => .p rfl (op_move (.t 3 rfl)) <| .p rfl (op_move (.t 4 rfl)) <| .p rfl (op_move (.t 4 rfl)) <| .u [0] rfl rfl (op_indexOi Try.underlying48 tok71 (.t 1 rfl) (.t 0 rfl) ht88) <| .u [0] rfl rfl (op_loadO tok71 (.t 0 rfl) ht88) <| .p rfl (op_buildSl (R := rSDiff) (us := [t88]) Try.underlying48 tok71 (.cons (.t 0 rfl) <| .nil _) rfl (Nat.le_of_ble_eq_true rfl)) <| .e [] [0] [1] rfl rfl rfl rfl (op_append (R := rSDiff) Try.underlying48 tok71 (Nat.le_of_ble_eq_true rfl) (.t 5 rfl) (.t 0 rfl) hu91) <| .ud (f := fun v => tv v) 6 rfl [] rfl rfl (op_assign (.t 0 rfl)) <| .nil _ _) (by kernel_rfl) (fun n18 a w hst => ?_)
                replace hst : St M w0 93 [(91, tv (n18 6)), (9, tv (n18 6)), (10, ti t28), (3, ti by_)] [own rSDiff 71 (s535 ++ [t88]) (n18 6)] a w := (hst.pick [6, 7, 10, 11])
                exact hK543 _ _ _ (Option.some.inj h).symm ⟨(n18 6), hst.pick [2, 1, 3]⟩
              · replace h := ite_f b546 h
                refine wp_exit ?_
                exact hJp541 _ v536 _ _ (ho _ (Option.some.inj h).symm) (hst.pick [3])
            · replace h := ite_f b547 h
              obtain ⟨t33, ht33, h⟩ := bind_some h
              obtain ⟨t37, ht37, h⟩ := bind_some h
              obtain ⟨u38, hu38, h⟩ := bind_some h
              refine wp_reg mixed [v1 7 (fun v0 => own rSDiff 71 (t33 ++ t37) v0)] hst (fun _ => .p rfl (op_move (.t 5 rfl)) <| .p rfl (op_move (.t 3 rfl)) <| .u [0] rfl rfl (op_cut (R := rSDiff) Try.underlying48 tok71 (.t 1 rfl) (.no _) (.op (.t 0 rfl)) ht33) <| .p rfl (op_move (.t 8 rfl)) <| .p rfl (op_move (.t 6 rfl)) <| .p rfl (op_add (.t 0 rfl) .k) <| .u [0] rfl rfl (op_cut (R := rSDiff) Try.underlying48 tok71 (.t 2 rfl) (.op (.t 0 rfl)) (.no _) ht37) <| .e [] [0] [1] rfl rfl rfl rfl (op_appendCut (R := rSDiff) (xs := (([] : List SDiff) ++ l_)) Try.underlying48 tok71 (Nat.le_of_ble_eq_true rfl) (.t 4 rfl) (.t 0 rfl) ht33 ht37 hu38) <| .ud (f := fun v => tv v) 7 rfl [] rfl rfl (op_assign (.t 0 rfl)) <| .nil _ _) (by kernel_rfl) (fun n7 a w hst => ?_)
              replace hst : St M w0 93 [(38, tv (n7 7)), (9, tv (n7 7))] [own rSDiff 71 (t33 ++ t37) (n7 7)] a w := (hst.pick [7, 8])
              obtain rfl := Option.some.inj h
              exact hJp520 (n7 7) _ _ (hst.pick [1])

/- diorama/dioramalaw14.own -/
noncomputable def fown14 (l_ : (List SDiff)) : Option ((List SDiff)) := (tailrec (fun (s6 : Int × List SDiff) => ((if (decide (s6.1 < (l_.length : Int))) = true then (idx l_ s6.1).bind fun t14 => (idx l_ s6.1).bind fun t19 => (idx l_ s6.1).bind fun t24 => (rm (s6.2.length + [(SDiff.mk (t14).A (t19).B (t24).N)].length)).bind fun _ => (some (.inl ((IntKind.i64.wrap (s6.1 + (1:Int))), (s6.2 ++ [(SDiff.mk (t14).A (t19).B (t24).N)])))) else (some (.inr s6.2))) : Option ((Int × List SDiff) ⊕ ((List SDiff))))) ((0:Int), ([] : List SDiff))).bind fun (p13 : (List SDiff)) => (some p13)
set_option maxRecDepth 100000 in
set_option maxHeartbeats 4000000 in
theorem own14_ok {l_ : (List SDiff)} {r : (List SDiff)} (h : fown14 l_ = some r) : FnOk Try.prog 32 [tsl rSDiff l_] [] (fun v => [own rSDiff 72 r v]) (fun v => tv v) := by
  unfold fown14 at h
  refine FnOk.enter Try.func32 rfl Try.ntmps32 (Nat.le_of_ble_eq_true rfl) (fun M0 M w0 a hpl hst => ?_)
  replace hst : St M w0 31 [(0, tsl rSDiff l_)] [] a w0 := hst
  refine wp_seq_k (fun K1 hK1 => ?_)
  refine wp_reg mixed [] hst (fun _ => .p rfl (op_assign .k) <| .nil _ _) (by kernel_rfl) (fun n0 a w hst => ?_)
  replace hst : St M w0 31 [(0, tsl rSDiff l_)] [] a w := (hst.pick [1])
  refine hK1 _ _ ?_
  try clear hK1 K1
  refine wp_seq_k (fun K2 hK2 => ?_)
  refine wp_reg mixed [] hst (fun _ => .p rfl (op_assign .k) <| .nil _ _) (by kernel_rfl) (fun n1 a w hst => ?_)
  replace hst : St M w0 31 [(3, tv (.slice none 0 0)), (0, tsl rSDiff l_)] [own rSDiff 72 ([] : List SDiff) (.slice none 0 0)] a w := ((hst.pick [0, 1]).nil (rSDiff) 72)
  refine hK2 _ _ ?_
  try clear hK2 K2
  refine wp_seq_k (fun K4 hK4 => ?_)
  refine wp_seq_k (fun K5 hK5 => ?_)
  refine wp_reg mixed [] hst (fun _ => .p rfl (op_assign .k) <| .nil _ _) (by kernel_rfl) (fun n2 a w hst => ?_)
  replace hst : St M w0 31 [(4, ti (0:Int)), (3, tv (.slice none 0 0)), (0, tsl rSDiff l_)] [own rSDiff 72 ([] : List SDiff) (.slice none 0 0)] a w := (hst.pick [0, 1, 2])
  refine hK5 _ _ ?_
  try clear hK5 K5
  obtain ⟨e8, he8, h⟩ := bind_some h
  have hJp13 : ∀ (p13 : List SDiff) (v14 : Value) a w, p13 = e8 → St M w0 31 [(3, tv v14)] [own rSDiff 72 p13 v14] a w → K4 a w := by
    intro p13 v14 a w he hst
    subst he
    refine hK4 _ _ ?_
    try clear hK4 K4
    refine wp_seq_k (fun K15 hK15 => ?_)
    refine wp_reg mixed [] hst (fun _ => .p rfl (op_move (.t 0 rfl)) <| .p rfl (op_assign (.t 0 rfl)) <| .nil _ _) (by kernel_rfl) (fun n6 a w hst => ?_)
    replace hst : St M w0 31 [(30, tv v14), (2, tv v14), (3, tv v14)] [own rSDiff 72 p13 v14] a w := (hst.pick [0, 1, 2])
    refine hK15 _ _ ?_
    try clear hK15 K15
    refine wp_ret ?_
    obtain rfl := Option.some.inj h
    exact ret_st v14 [0] hpl hst rfl (.tmp (.t 1 rfl) .nil) rfl rfl rfl
  refine wp_block ?_
  refine wp_loopK _ (fun (s6 : Int × List SDiff) a w => ∃ v7 : Value, St M w0 31 [(4, ti s6.1), (3, tv v7), (0, tsl rSDiff l_)] [own rSDiff 72 s6.2 v7] a w) _ _ he8 ⟨(.slice none 0 0), hst.pick [0, 1, 2]⟩ ?_
  clear h
  intro s6 o a w K16 hI h ho hK16
  obtain ⟨v7, hst⟩ := hI
  refine wp_seq_k (fun K17 hK17 => ?_)
  refine wp_seq_k (fun K18 hK18 => ?_)
  refine wp_reg mixed [] hst (fun _ => .p rfl (op_move (.t 0 rfl)) <| .p rfl (op_move (.t 3 rfl)) <| .p rfl (op_len Try.underlying48 (.t 0 rfl)) <| .p rfl (op_lss (.t 2 rfl) (.t 0 rfl)) <| .nil _ _) (by kernel_rfl) (fun n3 a w hst => ?_)
  replace hst : St M w0 31 [(8, tb (decide (s6.1 < (l_.length : Int)))), (4, ti s6.1), (3, tv v7), (0, tsl rSDiff l_)] [own rSDiff 72 s6.2 v7] a w := (hst.pick [3, 4, 5, 6])
  refine hK18 _ _ ?_
  try clear hK18 K18
  refine wp_test 0 hst rfl (fun b20 => ?_) (fun b20 => ?_)
  · replace h := ite_t b20 h
    refine wp_skip ?_
    refine hK17 _ _ ?_
    try clear hK17 K17
    refine wp_seq_k (fun K19 hK19 => ?_)
    refine wp_block ?_
    obtain ⟨t14, ht14, h⟩ := bind_some h
    obtain ⟨t19, ht19, h⟩ := bind_some h
    obtain ⟨t24, ht24, h⟩ := bind_some h
    obtain ⟨u29, hu29, h⟩ := bind_some h
    refine wp_reg mixed [v1 18 (fun v0 => own rSDiff 72 (s6.2 ++ [(SDiff.mk (t14).A (t19).B (t24).N)]) v0)] hst (fun _ => .p rfl (op_move (.t 2 rfl)) <| .p rfl (op_move (.t 4 rfl)) <| .p rfl (op_move (.t 3 rfl)) <| .p rfl (op_index Try.underlying48 tok71 (.t 1 rfl) (.t 0 rfl) ht14) <| .p rfl (op_field fld71_0 (.t 0 rfl)) <| .p rfl (op_loadT (u := (t14).A) tok3 (.t 0 rfl) rfl) <| .p rfl (op_move (.t 9 rfl)) <| .p rfl (op_move (.t 8 rfl)) <| .p rfl (op_index Try.underlying48 tok71 (.t 1 rfl) (.t 0 rfl) ht19) <| .p rfl (op_field fld71_1 (.t 0 rfl)) <| .p rfl (op_loadT (u := (t19).B) tok3 (.t 0 rfl) rfl) <| .p rfl (op_move (.t 14 rfl)) <| .p rfl (op_move (.t 13 rfl)) <| .p rfl (op_index Try.underlying48 tok71 (.t 1 rfl) (.t 0 rfl) ht24) <| .p rfl (op_field fld71_2 (.t 0 rfl)) <| .p rfl (op_loadT (u := (t24).N) tok3 (.t 0 rfl) rfl) <| .p (T := rSDiff.ty (SDiff.mk (t14).A (t19).B (t24).N)) rfl (op_build Try.underlying72 pl72 zv72 zc72 (.cons (R := rI) (u := (t14).A) rfl (.t 10 rfl) (Nat.le_of_ble_eq_true rfl) <| .cons (R := rI) (u := (t19).B) rfl (.t 5 rfl) (Nat.le_of_ble_eq_true rfl) <| .cons (R := rI) (u := (t24).N) rfl (.t 0 rfl) (Nat.le_of_ble_eq_true rfl) <| .nil _)) <| .p rfl (op_buildSl (R := rSDiff) (us := [(SDiff.mk (t14).A (t19).B (t24).N)]) Try.underlying55 tok72 (.cons (.t 0 rfl) <| .nil _) rfl (Nat.le_of_ble_eq_true rfl)) <| .e [] [0] [1] rfl rfl rfl rfl (op_append (R := rSDiff) Try.underlying55 tok72 (Nat.le_of_ble_eq_true rfl) (.t 17 rfl) (.t 0 rfl) hu29) <| .ud (f := fun v => tv v) 18 rfl [] rfl rfl (op_assign (.t 0 rfl)) <| .nil _ _) (by kernel_rfl) (fun n5 a w hst => ?_)
    replace hst : St M w0 31 [(29, tv (n5 18)), (3, tv (n5 18)), (4, ti s6.1), (0, tsl rSDiff l_)] [own rSDiff 72 (s6.2 ++ [(SDiff.mk (t14).A (t19).B (t24).N)]) (n5 18)] a w := (hst.pick [18, 19, 21, 22])
    refine hK19 _ _ ?_
    try clear hK19 K19
    refine wp_reg mixed [] hst (fun _ => .p rfl (op_move (.t 2 rfl)) <| .p rfl (op_add (.t 0 rfl) .k) <| .p rfl (op_assign (.t 0 rfl)) <| .nil _ _) (by kernel_rfl) (fun n4 a w hst => ?_)
    replace hst : St M w0 31 [(4, ti (IntKind.i64.wrap (s6.1 + (1:Int)))), (29, tv (n5 18)), (3, tv (n5 18)), (0, tsl rSDiff l_)] [own rSDiff 72 (s6.2 ++ [(SDiff.mk (t14).A (t19).B (t24).N)]) (n5 18)] a w := (hst.pick [2, 3, 4, 5])
    exact hK16 _ _ _ (Option.some.inj h).symm ⟨(n5 18), hst.pick [0, 2, 3]⟩
  · replace h := ite_f b20 h
    refine wp_exit ?_
    exact hJp13 _ v7 _ _ (ho _ (Option.some.inj h).symm) (hst.pick [2])

/- diorama/bounds.edges -/
noncomputable def fedges (n_ : Int) (l_ : (List SDiff)) : Option ((List SEdge) × Int) := (if ((decide (n_ > (10:Int))) || (decide ((l_.length : Int) > (64:Int)))) = true then (some (([] : List SEdge), (4:Int))) else (if (decide (n_ < (0:Int))) = true then (some (([] : List SEdge), (1:Int))) else (mk (l_.length : Int) (SEdge.mk (0:Int) (0:Int) (0:Int))).bind fun t20 => (tailrec (fun (s14 : Int × List SEdge) => ((if (decide (s14.1 < (l_.length : Int))) = true then (idx l_ s14.1).bind fun t26 => (if (((((decide ((imin (t26).A (t26).B) < (-1:Int))) || (decide ((imax (t26).A (t26).B) ≥ n_))) || ((t26).A == (t26).B)) || (decide ((t26).N < (-2097152:Int)))) || (decide ((t26).N > (2097152:Int)))) = true then (some (.inr (.inr ((1:Int), ([] : List SEdge))))) else (nz (IntKind.i64.wrap (n_ + (1:Int)))).bind fun _ => (nz (IntKind.i64.wrap (n_ + (1:Int)))).bind fun _ => (setAt s14.2 s14.1 (SEdge.mk (Int.tmod (IntKind.i64.wrap ((IntKind.i64.wrap ((t26).A + n_)) + (1:Int))) (IntKind.i64.wrap (n_ + (1:Int)))) (Int.tmod (IntKind.i64.wrap ((IntKind.i64.wrap ((t26).B + n_)) + (1:Int))) (IntKind.i64.wrap (n_ + (1:Int)))) (t26).N)).bind fun t81s => (some (.inl ((IntKind.i64.wrap (s14.1 + (1:Int))), t81s)))) else (some (.inr (.inl s14.2)))) : Option ((Int × List SEdge) ⊕ ((List SEdge) ⊕ (Int × List SEdge))))) ((0:Int), t20)).bind fun (e15 : (List SEdge) ⊕ (Int × List SEdge)) => (match e15 with | .inl p27 => (some (p27, (0:Int))) | .inr p28 => (some (p28.2, p28.1)))))
set_option maxRecDepth 100000 in
set_option maxHeartbeats 4000000 in
theorem edges_ok {n_ : Int} {l_ : (List SDiff)} {r : (List SEdge) × Int} (h : fedges n_ l_ = some r) : FnOk Try.prog 60 [ti n_, tsl rSDiff l_] [] (fun v => [own rSEdge 103 r.1 v]) (fun v => ttup [tv v, ti r.2]) := by
  unfold fedges at h
  refine FnOk.enter Try.func60 rfl Try.ntmps60 (Nat.le_of_ble_eq_true rfl) (fun M0 M w0 a hpl hst => ?_)
  replace hst : St M w0 84 [(0, ti n_), (1, tsl rSDiff l_)] [] a w0 := hst
  refine wp_seq_k (fun K1 hK1 => ?_)
  refine wp_reg mixed [] hst (fun _ => .p rfl (op_assign .k) <| .p rfl (op_assign .k) <| .nil _ _) (by kernel_rfl) (fun n0 a w hst => ?_)
  replace hst : St M w0 84 [(0, ti n_), (1, tsl rSDiff l_)] [] a w := (hst.pick [2, 3])
  refine hK1 _ _ ?_
  try clear hK1 K1
  refine wp_seq_k (fun K2 hK2 => ?_)
  refine wp_seq_k (fun K3 hK3 => ?_)
  refine wp_reg mixed [] hst (fun _ => .p rfl (op_move (.t 0 rfl)) <| .p rfl (op_gtr (.t 0 rfl) .k) <| .p rfl (op_move (.t 0 rfl)) <| .g rfl rfl (.b 0 rfl) (fun _ => op_move (.t 4 rfl)) <| .g rfl rfl (.b 1 rfl) (fun hc => op_len Try.underlying55 (.cond (.t 0 rfl) hc)) <| .g rfl rfl (.b 2 rfl) (fun hc => op_gtr (.cond (.t 0 rfl) hc) .k) <| .p rfl (op_or (.t 3 rfl) (fun hp => (.cond (.t 0 rfl) (beqF hp)))) <| .nil _ _) (by kernel_rfl) (fun n1 a w hst => ?_)
  replace hst : St M w0 84 [(15, tb ((decide (n_ > (10:Int))) || (decide ((l_.length : Int) > (64:Int))))), (0, ti n_), (1, tsl rSDiff l_)] [] a w := (hst.pick [6, 7, 8])
  refine hK3 _ _ ?_
  try clear hK3 K3
  refine wp_test 0 hst rfl (fun b44 => ?_) (fun b44 => ?_)
  · replace h := ite_t b44 h
    refine wp_seq_k (fun K4 hK4 => ?_)
    refine wp_reg mixed [] hst (fun _ => .p rfl (op_assign .k) <| .p rfl (op_assign .k) <| .nil _ _) (by kernel_rfl) (fun n2 a w hst => ?_)
    replace hst : St M w0 84 [(4, tv (.slice none 0 0)), (5, ti (4:Int))] [own rSEdge 103 ([] : List SEdge) (.slice none 0 0)] a w := ((hst.pick [0, 1]).nil (rSEdge) 103)
    refine hK4 _ _ ?_
    try clear hK4 K4
    refine wp_ret ?_
    obtain rfl := Option.some.inj h
    exact ret_st (.slice none 0 0) [0] hpl hst rfl (.tmp (.t 0 rfl) (.tmp (.t 1 rfl) .nil)) rfl rfl rfl
  · replace h := ite_f b44 h
    refine wp_skip ?_
    refine hK2 _ _ ?_
    try clear hK2 K2
    refine wp_seq_k (fun K6 hK6 => ?_)
    refine wp_seq_k (fun K7 hK7 => ?_)
    refine wp_reg mixed [] hst (fun _ => .p rfl (op_move (.t 1 rfl)) <| .p rfl (op_lss (.t 0 rfl) .k) <| .nil _ _) (by kernel_rfl) (fun n3 a w hst => ?_)
    replace hst : St M w0 84 [(17, tb (decide (n_ < (0:Int)))), (0, ti n_), (1, tsl rSDiff l_)] [] a w := (hst.pick [1, 3, 4])
    refine hK7 _ _ ?_
    try clear hK7 K7
    refine wp_test 0 hst rfl (fun b43 => ?_) (fun b43 => ?_)
    · replace h := ite_t b43 h
      refine wp_seq_k (fun K8 hK8 => ?_)
      refine wp_reg mixed [] hst (fun _ => .p rfl (op_assign .k) <| .p rfl (op_assign .k) <| .nil _ _) (by kernel_rfl) (fun n4 a w hst => ?_)
      replace hst : St M w0 84 [(4, tv (.slice none 0 0)), (5, ti (1:Int))] [own rSEdge 103 ([] : List SEdge) (.slice none 0 0)] a w := ((hst.pick [0, 1]).nil (rSEdge) 103)
      refine hK8 _ _ ?_
      try clear hK8 K8
      refine wp_ret ?_
      obtain rfl := Option.some.inj h
      exact ret_st (.slice none 0 0) [0] hpl hst rfl (.tmp (.t 0 rfl) (.tmp (.t 1 rfl) .nil)) rfl rfl rfl
    · replace h := ite_f b43 h
      refine wp_skip ?_
      refine hK6 _ _ ?_
      try clear hK6 K6
      refine wp_seq_k (fun K10 hK10 => ?_)
      obtain ⟨t20, ht20, h⟩ := bind_some h
      refine wp_reg mixed [v1 2 (fun v0 => own rSEdge 103 t20 v0)] hst (fun _ => .p rfl (op_move (.t 2 rfl)) <| .p rfl (op_len Try.underlying55 (.t 0 rfl)) <| .m [] [0] rfl rfl rfl (op_makeO (R := rSEdge) Try.underlying84 tok103 zok103 (Nat.le_of_ble_eq_true rfl) (.t 0 rfl) (.t 0 rfl) ht20) <| .ud (f := fun v => tv v) 2 rfl [] rfl rfl (op_assign (.t 0 rfl)) <| .nil _ _) (by kernel_rfl) (fun n5 a w hst => ?_)
      replace hst : St M w0 84 [(20, tv (n5 2)), (6, tv (n5 2)), (0, ti n_), (1, tsl rSDiff l_)] [own rSEdge 103 t20 (n5 2)] a w := (hst.pick [2, 3, 5, 6])
      refine hK10 _ _ ?_
      try clear hK10 K10
      refine wp_seq_k (fun K12 hK12 => ?_)
      refine wp_seq_k (fun K13 hK13 => ?_)
      refine wp_reg mixed [] hst (fun _ => .p rfl (op_move (.t 3 rfl)) <| .p rfl (op_len Try.underlying55 (.t 0 rfl)) <| .p rfl (op_move .k) <| .nil _ _) (by kernel_rfl) (fun n6 a w hst => ?_)
      replace hst : St M w0 84 [(21, tsl rSDiff l_), (22, ti (l_.length : Int)), (23, ti (0:Int)), (20, tv (n5 2)), (6, tv (n5 2)), (0, ti n_)] [own rSEdge 103 t20 (n5 2)] a w := (hst.pick [0, 1, 2, 3, 4, 5])
      refine hK13 _ _ ?_
      try clear hK13 K13
      obtain ⟨e15, he15, h⟩ := bind_some h
      have hJp27 : ∀ (p27 : List SEdge) a w, (.inl p27) = e15 → St M w0 84 [(6, tv (n5 2))] [own rSEdge 103 p27 (n5 2)] a w → K12 a w := by
        intro p27 a w he hst
        subst he
        simp only at h
        refine hK12 _ _ ?_
        try clear hK12 K12
        refine wp_seq_k (fun K30 hK30 => ?_)
        refine wp_reg mixed [] hst (fun _ => .p rfl (op_move (.t 0 rfl)) <| .p rfl (op_assign (.t 0 rfl)) <| .p rfl (op_assign .k) <| .nil _ _) (by kernel_rfl) (fun n13 a w hst => ?_)
        replace hst : St M w0 84 [(83, tv (n5 2)), (4, tv (n5 2)), (5, ti (0:Int)), (6, tv (n5 2))] [own rSEdge 103 p27 (n5 2)] a w := (hst.pick [0, 1, 2, 3])
        refine hK30 _ _ ?_
        try clear hK30 K30
        refine wp_ret ?_
        obtain rfl := Option.some.inj h
        exact ret_st (n5 2) [0] hpl hst rfl (.tmp (.t 1 rfl) (.tmp (.t 2 rfl) .nil)) rfl rfl rfl
      have hJp28 : ∀ (p28 : Int × List SEdge) (v29 : Value) a w, (.inr p28) = e15 → St M w0 84 [(4, tv v29), (5, ti p28.1)] [own rSEdge 103 p28.2 v29] a w → Ret Try.prog Try.f60 M0 [] w0 (fun v => [own rSEdge 103 r.1 v]) (fun v => ttup [tv v, ti r.2]) .ret a w := by
        intro p28 v29 a w he hst
        subst he
        simp only at h
        obtain rfl := Option.some.inj h
        exact ret_st v29 [0] hpl hst rfl (.tmp (.t 0 rfl) (.tmp (.t 1 rfl) .nil)) rfl rfl rfl
      refine wp_block ?_
      refine wp_loopK _ (fun (s14 : Int × List SEdge) a w => St M w0 84 [(21, tsl rSDiff l_), (22, ti (l_.length : Int)), (23, ti s14.1), (6, tv (n5 2)), (0, ti n_)] [own rSEdge 103 s14.2 (n5 2)] a w) _ _ he15 (hst.pick [0, 1, 2, 4, 5]) ?_
      clear h
      intro s14 o a w K31 hI h ho hK31
      have hst := hI
      clear hI
      refine wp_seq_k (fun K32 hK32 => ?_)
      refine wp_reg mixed [] hst (fun _ => .p rfl (op_lss (.t 2 rfl) (.t 1 rfl)) <| .nil _ _) (by kernel_rfl) (fun n7 a w hst => ?_)
      replace hst : St M w0 84 [(24, tb (decide (s14.1 < (l_.length : Int)))), (21, tsl rSDiff l_), (22, ti (l_.length : Int)), (23, ti s14.1), (6, tv (n5 2)), (0, ti n_)] [own rSEdge 103 s14.2 (n5 2)] a w := (hst.pick [0, 1, 2, 3, 4, 5])
      refine hK32 _ _ ?_
      try clear hK32 K32
      refine wp_seq_k (fun K33 hK33 => ?_)
      refine wp_test 0 hst rfl (fun b42 => ?_) (fun b42 => ?_)
      · replace h := ite_t b42 h
        refine wp_skip ?_
        refine hK33 _ _ ?_
        try clear hK33 K33
        refine wp_seq_k (fun K34 hK34 => ?_)
        refine wp_block ?_
        refine wp_seq_k (fun K35 hK35 => ?_)
        obtain ⟨t26, ht26, h⟩ := bind_some h
        refine wp_reg mixed [v1 3 (fun v0 => box (rSDiff.cs (SDiff.mk (0:Int) (0:Int) (0:Int))) v0), v1 3 (fun v0 => box (rSDiff.cs t26) v0)] hst (fun _ => .p rfl (op_move (.t 3 rfl)) <| .p rfl (op_index Try.underlying55 tok72 (.t 2 rfl) (.t 4 rfl) ht26) <| .p rfl (op_load tok72 (.t 0 rfl)) <| .m [] [1] rfl rfl rfl (op_alloc (R := rSDiff) (a := (SDiff.mk (0:Int) (0:Int) (0:Int))) tok72 zok72) <| .p rfl (op_assign (.t 3 rfl)) <| .e [] [1] [2] rfl rfl rfl rfl (op_storeB (R := rSDiff) (a := t26) tok72 (.t 1 rfl) (.t 2 rfl) (Nat.le_of_ble_eq_true rfl)) <| .nil _ _) (by kernel_rfl) (fun n8 a w hst => ?_)
        replace hst : St M w0 84 [(8, tptr (rSDiff.cs t26)), (7, ti s14.1), (21, tsl rSDiff l_), (22, ti (l_.length : Int)), (23, ti s14.1), (6, tv (n5 2)), (0, ti n_)] [own rSEdge 103 s14.2 (n5 2)] a w := (((((hst.pick [3, 4, 6, 7, 8, 9, 10]).selA [1, 0] rfl).shareB 0 rfl).add 0 rfl (fun _ _ _ h => h.2)).pick [0, 3, 4, 5, 6, 7, 8])
        refine hK35 _ _ ?_
        try clear hK35 K35
        refine wp_seq_k (fun K37 hK37 => ?_)
        refine wp_seq_k (fun K38 hK38 => ?_)
        refine wp_reg mixed [] hst (fun _ => .p rfl (op_field fld72_0 (.t 0 rfl)) <| .p rfl (op_loadT (u := (t26).A) tok3 (.t 0 rfl) rfl) <| .p rfl (op_field fld72_1 (.t 2 rfl)) <| .p rfl (op_loadT (u := (t26).B) tok3 (.t 0 rfl) rfl) <| .p rfl (op_min (.t 2 rfl) (.t 0 rfl)) <| .p rfl (op_lss (.t 0 rfl) .k) <| .p rfl (op_move (.t 0 rfl)) <| .g rfl rfl (.b 0 rfl) (fun _ => op_field fld72_0 (.t 7 rfl)) <| .g rfl rfl (.b 1 rfl) (fun hc => op_loadT (u := (t26).A) tok3 (.cond (.t 0 rfl) hc) rfl) <| .g rfl rfl (.b 2 rfl) (fun _ => op_field fld72_1 (.t 9 rfl)) <| .g rfl rfl (.b 3 rfl) (fun hc => op_loadT (u := (t26).B) tok3 (.cond (.t 0 rfl) hc) rfl) <| .g rfl rfl (.b 4 rfl) (fun hc => op_max (.cond (.t 2 rfl) hc) (.cond (.t 0 rfl) hc)) <| .g rfl rfl (.b 5 rfl) (fun _ => op_move (.t 18 rfl)) <| .g rfl rfl (.b 6 rfl) (fun hc => op_geq (.cond (.t 1 rfl) hc) (.cond (.t 0 rfl) hc)) <| .p rfl (op_or (.t 7 rfl) (fun hp => (.cond (.t 0 rfl) (beqF hp)))) <| .p rfl (op_move (.t 0 rfl)) <| .g rfl rfl (.b 0 rfl) (fun _ => op_field fld72_0 (.t 16 rfl)) <| .g rfl rfl (.b 1 rfl) (fun hc => op_loadT (u := (t26).A) tok3 (.cond (.t 0 rfl) hc) rfl) <| .g rfl rfl (.b 2 rfl) (fun _ => op_field fld72_1 (.t 18 rfl)) <| .g rfl rfl (.b 3 rfl) (fun hc => op_loadT (u := (t26).B) tok3 (.cond (.t 0 rfl) hc) rfl) <| .g rfl rfl (.b 4 rfl) (fun hc => op_eql (.cond (.t 2 rfl) hc) (.cond (.t 0 rfl) hc)) <| .p rfl (op_or (.t 5 rfl) (fun hp => (.cond (.t 0 rfl) (beqF hp)))) <| .p rfl (op_move (.t 0 rfl)) <| .g rfl rfl (.b 0 rfl) (fun _ => op_field fld72_2 (.t 23 rfl)) <| .g rfl rfl (.b 1 rfl) (fun hc => op_loadT (u := (t26).N) tok3 (.cond (.t 0 rfl) hc) rfl) <| .g rfl rfl (.b 2 rfl) (fun hc => op_lss (.cond (.t 0 rfl) hc) .k) <| .p rfl (op_or (.t 3 rfl) (fun hp => (.cond (.t 0 rfl) (beqF hp)))) <| .p rfl (op_move (.t 0 rfl)) <| .g rfl rfl (.b 0 rfl) (fun _ => op_field fld72_2 (.t 28 rfl)) <| .g rfl rfl (.b 1 rfl) (fun hc => op_loadT (u := (t26).N) tok3 (.cond (.t 0 rfl) hc) rfl) <| .g rfl rfl (.b 2 rfl) (fun hc => op_gtr (.cond (.t 0 rfl) hc) .k) <| .p rfl (op_or (.t 3 rfl) (fun hp => (.cond (.t 0 rfl) (beqF hp)))) <| .nil _ _) (by kernel_rfl) (fun n9 a w hst => ?_)
        replace hst : St M w0 84 [(59, tb (((((decide ((imin (t26).A (t26).B) < (-1:Int))) || (decide ((imax (t26).A (t26).B) ≥ n_))) || ((t26).A == (t26).B)) || (decide ((t26).N < (-2097152:Int)))) || (decide ((t26).N > (2097152:Int))))), (8, tptr (rSDiff.cs t26)), (7, ti s14.1), (21, tsl rSDiff l_), (22, ti (l_.length : Int)), (23, ti s14.1), (6, tv (n5 2)), (0, ti n_)] [own rSEdge 103 s14.2 (n5 2)] a w := (hst.pick [31, 32, 33, 34, 35, 36, 37, 38])
        refine hK38 _ _ ?_
        try clear hK38 K38
        refine wp_test 0 hst rfl (fun b41 => ?_) (fun b41 => ?_)
        · replace h := ite_t b41 h
          refine wp_seq_k (fun K39 hK39 => ?_)
          refine wp_reg mixed [] hst (fun _ => .p rfl (op_assign .k) <| .p rfl (op_assign .k) <| .nil _ _) (by kernel_rfl) (fun n10 a w hst => ?_)
          replace hst : St M w0 84 [(4, tv (.slice none 0 0)), (5, ti (1:Int)), (6, tv (n5 2))] [own rSEdge 103 ([] : List SEdge) (.slice none 0 0), own rSEdge 103 s14.2 (n5 2)] a w := ((hst.pick [0, 1, 8]).nil (rSEdge) 103)
          refine hK39 _ _ ?_
          try clear hK39 K39
          refine wp_ret ?_
          exact hJp28 _ (.slice none 0 0) _ _ (ho _ (Option.some.inj h).symm) ((hst.pick [0, 1]).selA [0] rfl)
        · replace h := ite_f b41 h
          refine wp_skip ?_
          refine hK37 _ _ ?_
          try clear hK37 K37
          obtain ⟨u69, hu69, h⟩ := bind_some h
          obtain ⟨u77, hu77, h⟩ := bind_some h
          obtain ⟨t81s, ht81s, h⟩ := bind_some h
          refine wp_reg mixed [v0 (own rSEdge 103 t81s (n5 2))] hst (fun _ => .p rfl (op_move (.t 6 rfl)) <| .p rfl (op_move (.t 3 rfl)) <| .p rfl (op_field fld72_0 (.t 3 rfl)) <| .p rfl (op_loadT (u := (t26).A) tok3 (.t 0 rfl) rfl) <| .p rfl (op_move (.t 11 rfl)) <| .p rfl (op_add (.t 1 rfl) (.t 0 rfl)) <| .p rfl (op_add (.t 0 rfl) .k) <| .p rfl (op_move (.t 14 rfl)) <| .p rfl (op_add (.t 0 rfl) .k) <| .p rfl (op_rem (.t 2 rfl) (.t 0 rfl) (nz_ne hu69)) <| .p rfl (op_field fld72_1 (.t 11 rfl)) <| .p rfl (op_loadT (u := (t26).B) tok3 (.t 0 rfl) rfl) <| .p rfl (op_move (.t 19 rfl)) <| .p rfl (op_add (.t 1 rfl) (.t 0 rfl)) <| .p rfl (op_add (.t 0 rfl) .k) <| .p rfl (op_move (.t 22 rfl)) <| .p rfl (op_add (.t 0 rfl) .k) <| .p rfl (op_rem (.t 2 rfl) (.t 0 rfl) (nz_ne hu77)) <| .p rfl (op_field fld72_2 (.t 19 rfl)) <| .p rfl (op_loadT (u := (t26).N) tok3 (.t 0 rfl) rfl) <| .p (T := rSEdge.ty (SEdge.mk (Int.tmod (IntKind.i64.wrap ((IntKind.i64.wrap ((t26).A + n_)) + (1:Int))) (IntKind.i64.wrap (n_ + (1:Int)))) (Int.tmod (IntKind.i64.wrap ((IntKind.i64.wrap ((t26).B + n_)) + (1:Int))) (IntKind.i64.wrap (n_ + (1:Int)))) (t26).N)) rfl (op_build Try.underlying103 pl103 zv103 zc103 (.cons (R := rI) (u := (Int.tmod (IntKind.i64.wrap ((IntKind.i64.wrap ((t26).A + n_)) + (1:Int))) (IntKind.i64.wrap (n_ + (1:Int))))) rfl (.t 10 rfl) (Nat.le_of_ble_eq_true rfl) <| .cons (R := rI) (u := (Int.tmod (IntKind.i64.wrap ((IntKind.i64.wrap ((t26).B + n_)) + (1:Int))) (IntKind.i64.wrap (n_ + (1:Int))))) rfl (.t 2 rfl) (Nat.le_of_ble_eq_true rfl) <| .cons (R := rI) (u := (t26).N) rfl (.t 0 rfl) (Nat.le_of_ble_eq_true rfl) <| .nil _)) <| .u [0] rfl rfl (op_indexOs Try.underlying84 tok103 (.t 20 rfl) (.t 19 rfl) ht81s) <| .e [] [0] [1] rfl rfl rfl rfl (op_storeO tok103 (.t 0 rfl) (.t 1 rfl) ht81s) <| .nil _ _) (by kernel_rfl) (fun n11 a w hst => ?_)
          replace hst : St M w0 84 [(60, tv (n5 2)), (21, tsl rSDiff l_), (22, ti (l_.length : Int)), (23, ti s14.1), (6, tv (n5 2)), (0, ti n_)] [own rSEdge 103 t81s (n5 2)] a w := (hst.pick [0, 25, 26, 27, 28, 29])
          refine hK34 _ _ ?_
          try clear hK34 K34
          refine wp_reg mixed [] hst (fun _ => .p rfl (op_add (.t 3 rfl) .k) <| .p rfl (op_move (.t 0 rfl)) <| .nil _ _) (by kernel_rfl) (fun n12 a w hst => ?_)
          replace hst : St M w0 84 [(23, ti (IntKind.i64.wrap (s14.1 + (1:Int)))), (60, tv (n5 2)), (21, tsl rSDiff l_), (22, ti (l_.length : Int)), (6, tv (n5 2)), (0, ti n_)] [own rSEdge 103 t81s (n5 2)] a w := (hst.pick [1, 2, 3, 4, 5, 6])
          exact hK31 _ _ _ (Option.some.inj h).symm (hst.pick [2, 3, 0, 4, 5])
      · replace h := ite_f b42 h
        refine wp_exit ?_
        exact hJp27 _ _ _ (ho _ (Option.some.inj h).symm) (hst.pick [4])

/- diorama/dioramaref14.Valid -/
noncomputable def fValidR14 (n_ : Int) (l_ : (List SDiff)) : Option (Int) := (if ((decide (n_ > (10:Int))) || (decide ((l_.length : Int) > (64:Int)))) = true then (some (4:Int)) else (if (decide (n_ < (0:Int))) = true then (some (1:Int)) else (tailrec (fun (s10 : Int) => ((if (decide (s10 < (l_.length : Int))) = true then (idx l_ s10).bind fun t24 => (if (((((((decide ((t24).A < (-1:Int))) || (decide ((t24).A ≥ n_))) || (decide ((t24).B < (-1:Int)))) || (decide ((t24).B ≥ n_))) || ((t24).A == (t24).B)) || (decide ((t24).N < (-2097152:Int)))) || (decide ((t24).N > (2097152:Int)))) = true then (some (.inr (.inr (1:Int)))) else (some (.inl (IntKind.i64.wrap (s10 + (1:Int)))))) else (some (.inr (.inl ())))) : Option ((Int) ⊕ ((Unit) ⊕ (Int))))) (0:Int)).bind fun (e11 : (Unit) ⊕ (Int)) => (match e11 with | .inl p21 => (some (0:Int)) | .inr p22 => (some p22))))
set_option maxRecDepth 100000 in
set_option maxHeartbeats 4000000 in
theorem ValidR14_ok {n_ : Int} {l_ : (List SDiff)} {r : Int} (h : fValidR14 n_ l_ = some r) : FnOk Try.prog 62 [ti n_, tsl rSDiff l_] [] (fun _ => []) (fun _ => ti r) := by
  unfold fValidR14 at h
  refine FnOk.enter Try.func62 rfl Try.ntmps62 (Nat.le_of_ble_eq_true rfl) (fun M0 M w0 a hpl hst => ?_)
  replace hst : St M w0 63 [(0, ti n_), (1, tsl rSDiff l_)] [] a w0 := hst
  refine wp_seq_k (fun K1 hK1 => ?_)
  refine wp_reg mixed [] hst (fun _ => .p rfl (op_assign .k) <| .nil _ _) (by kernel_rfl) (fun n0 a w hst => ?_)
  replace hst : St M w0 63 [(0, ti n_), (1, tsl rSDiff l_)] [] a w := (hst.pick [1, 2])
  refine hK1 _ _ ?_
  try clear hK1 K1
  refine wp_seq_k (fun K2 hK2 => ?_)
  refine wp_seq_k (fun K3 hK3 => ?_)
  refine wp_reg mixed [] hst (fun _ => .p rfl (op_move (.t 0 rfl)) <| .p rfl (op_gtr (.t 0 rfl) .k) <| .p rfl (op_move (.t 0 rfl)) <| .g rfl rfl (.b 0 rfl) (fun _ => op_move (.t 4 rfl)) <| .g rfl rfl (.b 1 rfl) (fun hc => op_len Try.underlying48 (.cond (.t 0 rfl) hc)) <| .g rfl rfl (.b 2 rfl) (fun hc => op_gtr (.cond (.t 0 rfl) hc) .k) <| .p rfl (op_or (.t 3 rfl) (fun hp => (.cond (.t 0 rfl) (beqF hp)))) <| .nil _ _) (by kernel_rfl) (fun n1 a w hst => ?_)
  replace hst : St M w0 63 [(13, tb ((decide (n_ > (10:Int))) || (decide ((l_.length : Int) > (64:Int))))), (0, ti n_), (1, tsl rSDiff l_)] [] a w := (hst.pick [6, 7, 8])
  refine hK3 _ _ ?_
  try clear hK3 K3
  refine wp_test 0 hst rfl (fun b35 => ?_) (fun b35 => ?_)
  · replace h := ite_t b35 h
    refine wp_seq_k (fun K4 hK4 => ?_)
    refine wp_reg mixed [] hst (fun _ => .p rfl (op_assign .k) <| .nil _ _) (by kernel_rfl) (fun n2 a w hst => ?_)
    replace hst : St M w0 63 [(4, ti (4:Int))] [] a w := (hst.pick [0])
    refine hK4 _ _ ?_
    try clear hK4 K4
    refine wp_ret ?_
    obtain rfl := Option.some.inj h
    exact ret_st undef [] hpl hst rfl (.tmp (.t 0 rfl) .nil) rfl rfl rfl
  · replace h := ite_f b35 h
    refine wp_skip ?_
    refine hK2 _ _ ?_
    try clear hK2 K2
    refine wp_seq_k (fun K5 hK5 => ?_)
    refine wp_seq_k (fun K6 hK6 => ?_)
    refine wp_reg mixed [] hst (fun _ => .p rfl (op_move (.t 1 rfl)) <| .p rfl (op_lss (.t 0 rfl) .k) <| .nil _ _) (by kernel_rfl) (fun n3 a w hst => ?_)
    replace hst : St M w0 63 [(15, tb (decide (n_ < (0:Int)))), (0, ti n_), (1, tsl rSDiff l_)] [] a w := (hst.pick [1, 3, 4])
    refine hK6 _ _ ?_
    try clear hK6 K6
    refine wp_test 0 hst rfl (fun b34 => ?_) (fun b34 => ?_)
    · replace h := ite_t b34 h
      refine wp_seq_k (fun K7 hK7 => ?_)
      refine wp_reg mixed [] hst (fun _ => .p rfl (op_assign .k) <| .nil _ _) (by kernel_rfl) (fun n4 a w hst => ?_)
      replace hst : St M w0 63 [(4, ti (1:Int))] [] a w := (hst.pick [0])
      refine hK7 _ _ ?_
      try clear hK7 K7
      refine wp_ret ?_
      obtain rfl := Option.some.inj h
      exact ret_st undef [] hpl hst rfl (.tmp (.t 0 rfl) .nil) rfl rfl rfl
    · replace h := ite_f b34 h
      refine wp_skip ?_
      refine hK5 _ _ ?_
      try clear hK5 K5
      refine wp_seq_k (fun K8 hK8 => ?_)
      refine wp_seq_k (fun K9 hK9 => ?_)
      refine wp_reg mixed [] hst (fun _ => .p rfl (op_assign .k) <| .nil _ _) (by kernel_rfl) (fun n5 a w hst => ?_)
      replace hst : St M w0 63 [(5, ti (0:Int)), (0, ti n_), (1, tsl rSDiff l_)] [] a w := (hst.pick [0, 2, 3])
      refine hK9 _ _ ?_
      try clear hK9 K9
      obtain ⟨e11, he11, h⟩ := bind_some h
      have hJp21 : ∀ (p21 : Unit) a w, (.inl p21) = e11 → St M w0 63 [] [] a w → K8 a w := by
        intro p21 a w he hst
        subst he
        simp only at h
        refine hK8 _ _ ?_
        try clear hK8 K8
        refine wp_seq_k (fun K23 hK23 => ?_)
        refine wp_reg mixed [] hst (fun _ => .p rfl (op_assign .k) <| .nil _ _) (by kernel_rfl) (fun n11 a w hst => ?_)
        replace hst : St M w0 63 [(4, ti (0:Int))] [] a w := (hst.pick [0])
        refine hK23 _ _ ?_
        try clear hK23 K23
        refine wp_ret ?_
        obtain rfl := Option.some.inj h
        exact ret_st undef [] hpl hst rfl (.tmp (.t 0 rfl) .nil) rfl rfl rfl
      have hJp22 : ∀ (p22 : Int) a w, (.inr p22) = e11 → St M w0 63 [(4, ti p22)] [] a w → Ret Try.prog Try.f62 M0 [] w0 (fun _ => []) (fun _ => ti r) .ret a w := by
        intro p22 a w he hst
        subst he
        simp only at h
        obtain rfl := Option.some.inj h
        exact ret_st undef [] hpl hst rfl (.tmp (.t 0 rfl) .nil) rfl rfl rfl
      refine wp_block ?_
      refine wp_loopK _ (fun (s10 : Int) a w => St M w0 63 [(5, ti s10), (0, ti n_), (1, tsl rSDiff l_)] [] a w) _ _ he11 (hst.pick [0, 1, 2]) ?_
      clear h
      intro s10 o a w K24 hI h ho hK24
      have hst := hI
      clear hI
      refine wp_seq_k (fun K25 hK25 => ?_)
      refine wp_seq_k (fun K26 hK26 => ?_)
      refine wp_reg mixed [] hst (fun _ => .p rfl (op_move (.t 0 rfl)) <| .p rfl (op_move (.t 3 rfl)) <| .p rfl (op_len Try.underlying48 (.t 0 rfl)) <| .p rfl (op_lss (.t 2 rfl) (.t 0 rfl)) <| .nil _ _) (by kernel_rfl) (fun n6 a w hst => ?_)
      replace hst : St M w0 63 [(19, tb (decide (s10 < (l_.length : Int)))), (5, ti s10), (0, ti n_), (1, tsl rSDiff l_)] [] a w := (hst.pick [3, 4, 5, 6])
      refine hK26 _ _ ?_
      try clear hK26 K26
      refine wp_test 0 hst rfl (fun b33 => ?_) (fun b33 => ?_)
      · replace h := ite_t b33 h
        refine wp_skip ?_
        refine hK25 _ _ ?_
        try clear hK25 K25
        refine wp_seq_k (fun K27 hK27 => ?_)
        refine wp_block ?_
        refine wp_seq_k (fun K28 hK28 => ?_)
        obtain ⟨t24, ht24, h⟩ := bind_some h
        refine wp_reg mixed [v1 4 (fun v0 => box (rSDiff.cs (SDiff.mk (0:Int) (0:Int) (0:Int))) v0), v1 4 (fun v0 => box (rSDiff.cs t24) v0)] hst (fun _ => .p rfl (op_move (.t 3 rfl)) <| .p rfl (op_move (.t 2 rfl)) <| .p rfl (op_index Try.underlying48 tok71 (.t 1 rfl) (.t 0 rfl) ht24) <| .p rfl (op_load tok71 (.t 0 rfl)) <| .m [] [0] rfl rfl rfl (op_alloc (R := rSDiff) (a := (SDiff.mk (0:Int) (0:Int) (0:Int))) tok71 zok71) <| .e [] [0] [1] rfl rfl rfl rfl (op_storeB (R := rSDiff) (a := t24) tok71 (.t 0 rfl) (.t 1 rfl) (Nat.le_of_ble_eq_true rfl)) <| .nil _ _) (by kernel_rfl) (fun n8 a w hst => ?_)
        replace hst : St M w0 63 [(6, tptr (rSDiff.cs t24)), (5, ti s10), (0, ti n_), (1, tsl rSDiff l_)] [] a w := ((((hst.pick [4, 6, 7, 8]).shareB 0 rfl).add 0 rfl (fun _ _ _ h => h.2)).pick [0, 3, 4, 5])
        refine hK28 _ _ ?_
        try clear hK28 K28
        refine wp_seq_k (fun K30 hK30 => ?_)
        refine wp_reg mixed [] hst (fun _ => .p rfl (op_field fld71_0 (.t 0 rfl)) <| .p rfl (op_loadT (u := (t24).A) tok3 (.t 0 rfl) rfl) <| .p rfl (op_lss (.t 0 rfl) .k) <| .p rfl (op_move (.t 0 rfl)) <| .g rfl rfl (.b 0 rfl) (fun _ => op_field fld71_0 (.t 4 rfl)) <| .g rfl rfl (.b 1 rfl) (fun hc => op_loadT (u := (t24).A) tok3 (.cond (.t 0 rfl) hc) rfl) <| .g rfl rfl (.b 2 rfl) (fun _ => op_move (.t 8 rfl)) <| .g rfl rfl (.b 3 rfl) (fun hc => op_geq (.cond (.t 1 rfl) hc) (.cond (.t 0 rfl) hc)) <| .p rfl (op_or (.t 4 rfl) (fun hp => (.cond (.t 0 rfl) (beqF hp)))) <| .p rfl (op_move (.t 0 rfl)) <| .g rfl rfl (.b 0 rfl) (fun _ => op_field fld71_1 (.t 10 rfl)) <| .g rfl rfl (.b 1 rfl) (fun hc => op_loadT (u := (t24).B) tok3 (.cond (.t 0 rfl) hc) rfl) <| .g rfl rfl (.b 2 rfl) (fun hc => op_lss (.cond (.t 0 rfl) hc) .k) <| .p rfl (op_or (.t 3 rfl) (fun hp => (.cond (.t 0 rfl) (beqF hp)))) <| .p rfl (op_move (.t 0 rfl)) <| .g rfl rfl (.b 0 rfl) (fun _ => op_field fld71_1 (.t 15 rfl)) <| .g rfl rfl (.b 1 rfl) (fun hc => op_loadT (u := (t24).B) tok3 (.cond (.t 0 rfl) hc) rfl) <| .g rfl rfl (.b 2 rfl) (fun _ => op_move (.t 19 rfl)) <| .g rfl rfl (.b 3 rfl) (fun hc => op_geq (.cond (.t 1 rfl) hc) (.cond (.t 0 rfl) hc)) <| .p rfl (op_or (.t 4 rfl) (fun hp => (.cond (.t 0 rfl) (beqF hp)))) <| .p rfl (op_move (.t 0 rfl)) <| .g rfl rfl (.b 0 rfl) (fun _ => op_field fld71_0 (.t 21 rfl)) <| .g rfl rfl (.b 1 rfl) (fun hc => op_loadT (u := (t24).A) tok3 (.cond (.t 0 rfl) hc) rfl) <| .g rfl rfl (.b 2 rfl) (fun _ => op_field fld71_1 (.t 23 rfl)) <| .g rfl rfl (.b 3 rfl) (fun hc => op_loadT (u := (t24).B) tok3 (.cond (.t 0 rfl) hc) rfl) <| .g rfl rfl (.b 4 rfl) (fun hc => op_eql (.cond (.t 2 rfl) hc) (.cond (.t 0 rfl) hc)) <| .p rfl (op_or (.t 5 rfl) (fun hp => (.cond (.t 0 rfl) (beqF hp)))) <| .p rfl (op_move (.t 0 rfl)) <| .g rfl rfl (.b 0 rfl) (fun _ => op_field fld71_2 (.t 28 rfl)) <| .g rfl rfl (.b 1 rfl) (fun hc => op_loadT (u := (t24).N) tok3 (.cond (.t 0 rfl) hc) rfl) <| .g rfl rfl (.b 2 rfl) (fun hc => op_lss (.cond (.t 0 rfl) hc) .k) <| .p rfl (op_or (.t 3 rfl) (fun hp => (.cond (.t 0 rfl) (beqF hp)))) <| .p rfl (op_move (.t 0 rfl)) <| .g rfl rfl (.b 0 rfl) (fun _ => op_field fld71_2 (.t 33 rfl)) <| .g rfl rfl (.b 1 rfl) (fun hc => op_loadT (u := (t24).N) tok3 (.cond (.t 0 rfl) hc) rfl) <| .g rfl rfl (.b 2 rfl) (fun hc => op_gtr (.cond (.t 0 rfl) hc) .k) <| .p rfl (op_or (.t 3 rfl) (fun hp => (.cond (.t 0 rfl) (beqF hp)))) <| .nil _ _) (by kernel_rfl) (fun n9 a w hst => ?_)
        replace hst : St M w0 63 [(62, tb (((((((decide ((t24).A < (-1:Int))) || (decide ((t24).A ≥ n_))) || (decide ((t24).B < (-1:Int)))) || (decide ((t24).B ≥ n_))) || ((t24).A == (t24).B)) || (decide ((t24).N < (-2097152:Int)))) || (decide ((t24).N > (2097152:Int))))), (5, ti s10), (0, ti n_), (1, tsl rSDiff l_)] [] a w := (hst.pick [36, 38, 39, 40])
        refine hK30 _ _ ?_
        try clear hK30 K30
        refine wp_test 0 hst rfl (fun b32 => ?_) (fun b32 => ?_)
        · replace h := ite_t b32 h
          refine wp_seq_k (fun K31 hK31 => ?_)
          refine wp_reg mixed [] hst (fun _ => .p rfl (op_assign .k) <| .nil _ _) (by kernel_rfl) (fun n10 a w hst => ?_)
          replace hst : St M w0 63 [(4, ti (1:Int))] [] a w := (hst.pick [0])
          refine hK31 _ _ ?_
          try clear hK31 K31
          refine wp_ret ?_
          exact hJp22 _ _ _ (ho _ (Option.some.inj h).symm) (hst.pick [0])
        · replace h := ite_f b32 h
          refine wp_skip ?_
          refine hK27 _ _ ?_
          try clear hK27 K27
          refine wp_reg mixed [] hst (fun _ => .p rfl (op_move (.t 1 rfl)) <| .p rfl (op_add (.t 0 rfl) .k) <| .p rfl (op_assign (.t 0 rfl)) <| .nil _ _) (by kernel_rfl) (fun n7 a w hst => ?_)
          replace hst : St M w0 63 [(5, ti (IntKind.i64.wrap (s10 + (1:Int)))), (0, ti n_), (1, tsl rSDiff l_)] [] a w := (hst.pick [2, 4, 5])
          exact hK24 _ _ _ (Option.some.inj h).symm (hst.pick [0, 1, 2])
      · replace h := ite_f b33 h
        refine wp_exit ?_
        exact hJp21 _ _ _ (ho _ (Option.some.inj h).symm) (hst.pick [])

/- diorama/dioramaref14.table -/
noncomputable def ftable (n_ : Int) (l_ : (List SDiff)) : Option ((List (List Int))) := (mk (IntKind.i64.wrap (n_ + (1:Int))) ([] : (List Int))).bind fun t13 => (tailrec (fun (s7 : Int × List (List Int)) => ((if (decide (s7.1 ≤ n_)) = true then (mk (IntKind.i64.wrap (n_ + (1:Int))) (0:Int)).bind fun t23 => (setAt s7.2 s7.1 t23).bind fun w24s => (tailrec (fun (s77 : Int × List (List Int)) => ((if (decide (s77.1 ≤ n_)) = true then ((if (s7.1 != s77.1) = true then (idx s77.2 s7.1).bind fun r101 => (setAt r101 s77.1 (1099511627776:Int)).bind fun t38s => (setAt s77.2 s7.1 t38s).bind fun m102 => (some m102) else (some s77.2))).bind fun (p97 : List (List Int)) => (some (.inl ((IntKind.i64.wrap (s77.1 + (1:Int))), p97))) else (some (.inr s77.2))) : Option ((Int × List (List Int)) ⊕ ((List (List Int)))))) ((0:Int), w24s)).bind fun (p91 : (List (List Int))) => (some (.inl ((IntKind.i64.wrap (s7.1 + (1:Int))), p91))) else (some (.inr s7.2))) : Option ((Int × List (List Int)) ⊕ ((List (List Int)))))) ((0:Int), t13)).bind fun (p45 : (List (List Int))) => (tailrec (fun (s49 : Int × List (List Int)) => ((if (decide (s49.1 < (l_.length : Int))) = true then (idx l_ s49.1).bind fun t48 => (frow n_ (t48).A).bind fun t51 => (idx l_ s49.1).bind fun t55 => (frow n_ (t55).B).bind fun t58 => (idx s49.2 t51).bind fun r67 => (idx r67 t58).bind fun t69 => (idx l_ s49.1).bind fun t73 => (setAt r67 t58 (imin t69 (t73).N)).bind fun t77s => (setAt s49.2 t51 t77s).bind fun m68 => (some (.inl ((IntKind.i64.wrap (s49.1 + (1:Int))), m68))) else (some (.inr s49.2))) : Option ((Int × List (List Int)) ⊕ ((List (List Int)))))) ((0:Int), p45)).bind fun (p59 : (List (List Int))) => (some p59)
set_option maxRecDepth 100000 in
set_option maxHeartbeats 4000000 in
theorem table_ok {n_ : Int} {l_ : (List SDiff)} {r : (List (List Int))} (h : ftable n_ l_ = some r) : FnOk Try.prog 63 [ti n_, tsl rSDiff l_] [] (fun v => [own rVal 22 (tabU v) (tabV v), rows rI 3 r (tabU v)]) (fun v => tv (tabV v)) := by
  unfold ftable at h
  refine FnOk.enter Try.func63 rfl Try.ntmps63 (Nat.le_of_ble_eq_true rfl) (fun M0 M w0 a hpl hst => ?_)
  replace hst : St M w0 79 [(0, ti n_), (1, tsl rSDiff l_)] [] a w0 := hst
  refine wp_seq_k (fun K1 hK1 => ?_)
  refine wp_reg mixed [] hst (fun _ => .p rfl (op_assign .k) <| .nil _ _) (by kernel_rfl) (fun n0 a w hst => ?_)
  replace hst : St M w0 79 [(0, ti n_), (1, tsl rSDiff l_)] [] a w := (hst.pick [1, 2])
  refine hK1 _ _ ?_
  try clear hK1 K1
  refine wp_seq_k (fun K2 hK2 => ?_)
  obtain ⟨t13, ht13, h⟩ := bind_some h
  refine wp_reg mixed [v1 2 (fun v0 => own rVal 22 (List.replicate ((IntKind.i64.wrap (n_ + (1:Int)))).toNat nilV) v0)] hst (fun _ => .p rfl (op_move (.t 0 rfl)) <| .p rfl (op_add (.t 0 rfl) .k) <| .m [] [0] rfl rfl rfl (op_makeT (α := Int) Try.underlying26 tokV22 (Nat.le_of_ble_eq_true rfl) (.t 0 rfl) (.t 0 rfl) ht13) <| .ud (f := fun v => tv v) 2 rfl [] rfl rfl (op_assign (.t 0 rfl)) <| .nil _ _) (by kernel_rfl) (fun n1 a w hst => ?_)
  replace hst : St M w0 79 [(13, tv (n1 2)), (5, tv (n1 2)), (0, ti n_), (1, tsl rSDiff l_)] [rows rI 3 t13 (List.replicate ((IntKind.i64.wrap (n_ + (1:Int)))).toNat nilV), own rVal 22 (List.replicate ((IntKind.i64.wrap (n_ + (1:Int)))).toNat nilV) (n1 2)] a w := ((hst.pick [2, 3, 4, 5]).rowsM (rI) 3 ht13)
  refine hK2 _ _ ?_
  try clear hK2 K2
  refine wp_seq_k (fun K5 hK5 => ?_)
  refine wp_seq_k (fun K6 hK6 => ?_)
  refine wp_reg mixed [] hst (fun _ => .p rfl (op_assign .k) <| .nil _ _) (by kernel_rfl) (fun n2 a w hst => ?_)
  replace hst : St M w0 79 [(6, ti (0:Int)), (13, tv (n1 2)), (5, tv (n1 2)), (0, ti n_), (1, tsl rSDiff l_)] [rows rI 3 t13 (List.replicate ((IntKind.i64.wrap (n_ + (1:Int)))).toNat nilV), own rVal 22 (List.replicate ((IntKind.i64.wrap (n_ + (1:Int)))).toNat nilV) (n1 2)] a w := (hst.pick [0, 1, 2, 3, 4])
  refine hK6 _ _ ?_
  try clear hK6 K6
  obtain ⟨e9, he9, h⟩ := bind_some h
  have hJp45 : ∀ (p45 : List (List Int)) (us46 : List Value) a w, p45 = e9 → St M w0 79 [(5, tv (n1 2)), (0, ti n_), (1, tsl rSDiff l_)] [rows rI 3 p45 us46, own rVal 22 us46 (n1 2)] a w → K5 a w := by
    intro p45 us46 a w he hst
    subst he
    refine hK5 _ _ ?_
    try clear hK5 K5
    refine wp_seq_k (fun K47 hK47 => ?_)
    refine wp_seq_k (fun K48 hK48 => ?_)
    refine wp_reg mixed [] hst (fun _ => .p rfl (op_assign .k) <| .nil _ _) (by kernel_rfl) (fun n11 a w hst => ?_)
    replace hst : St M w0 79 [(8, ti (0:Int)), (5, tv (n1 2)), (0, ti n_), (1, tsl rSDiff l_)] [rows rI 3 p45 us46, own rVal 22 us46 (n1 2)] a w := (hst.pick [0, 1, 2, 3])
    refine hK48 _ _ ?_
    try clear hK48 K48
    obtain ⟨e50, he50, h⟩ := bind_some h
    have hJp59 : ∀ (p59 : List (List Int)) a w, p59 = e50 → St M w0 79 [(5, tv (n1 2))] [rows rI 3 p59 us46, own rVal 22 us46 (n1 2)] a w → K47 a w := by
      intro p59 a w he hst
      subst he
      refine hK47 _ _ ?_
      try clear hK47 K47
      refine wp_seq_k (fun K60 hK60 => ?_)
      refine wp_reg mixed [] hst (fun _ => .p rfl (op_move (.t 0 rfl)) <| .p rfl (op_assign (.t 0 rfl)) <| .nil _ _) (by kernel_rfl) (fun n17 a w hst => ?_)
      replace hst : St M w0 79 [(78, tv (n1 2)), (4, tv (n1 2)), (5, tv (n1 2))] [rows rI 3 p59 us46, own rVal 22 us46 (n1 2)] a w := (hst.pick [0, 1, 2])
      refine hK60 _ _ ?_
      try clear hK60 K60
      refine wp_ret ?_
      obtain rfl := Option.some.inj h
      exact ret_st (tabX (n1 2) us46) [1, 0] hpl hst rfl (.tmp (.t 1 rfl) .nil) rfl rfl rfl
    refine wp_block ?_
    refine wp_loopK _ (fun (s49 : Int × List (List Int)) a w => St M w0 79 [(8, ti s49.1), (5, tv (n1 2)), (0, ti n_), (1, tsl rSDiff l_)] [rows rI 3 s49.2 us46, own rVal 22 us46 (n1 2)] a w) _ _ he50 (hst.pick [0, 1, 2, 3]) ?_
    clear h
    intro s49 o a w K61 hI h ho hK61
    have hst := hI
    clear hI
    refine wp_seq_k (fun K62 hK62 => ?_)
    refine wp_seq_k (fun K63 hK63 => ?_)
    refine wp_reg mixed [] hst (fun _ => .p rfl (op_move (.t 0 rfl)) <| .p rfl (op_move (.t 4 rfl)) <| .p rfl (op_len Try.underlying48 (.t 0 rfl)) <| .p rfl (op_lss (.t 2 rfl) (.t 0 rfl)) <| .nil _ _) (by kernel_rfl) (fun n12 a w hst => ?_)
    replace hst : St M w0 79 [(42, tb (decide (s49.1 < (l_.length : Int)))), (8, ti s49.1), (5, tv (n1 2)), (0, ti n_), (1, tsl rSDiff l_)] [rows rI 3 s49.2 us46, own rVal 22 us46 (n1 2)] a w := (hst.pick [3, 4, 5, 6, 7])
    refine hK63 _ _ ?_
    try clear hK63 K63
    refine wp_test 0 hst rfl (fun b69 => ?_) (fun b69 => ?_)
    · replace h := ite_t b69 h
      refine wp_skip ?_
      refine hK62 _ _ ?_
      try clear hK62 K62
      refine wp_seq_k (fun K64 hK64 => ?_)
      refine wp_block ?_
      refine wp_seq_k (fun K65 hK65 => ?_)
      obtain ⟨t48, ht48, h⟩ := bind_some h
      obtain ⟨t51, ht51, h⟩ := bind_some h
      refine wp_reg mixed [] hst (fun _ => .p rfl (op_move (.t 3 rfl)) <| .p rfl (op_move (.t 5 rfl)) <| .p rfl (op_move (.t 3 rfl)) <| .p rfl (op_index Try.underlying48 tok71 (.t 1 rfl) (.t 0 rfl) ht48) <| .p rfl (op_field fld71_0 (.t 0 rfl)) <| .p rfl (op_loadT (u := (t48).A) tok3 (.t 0 rfl) rfl) <| .p rfl (op_callF call66 (row_ok ht51) (.cons (.of (.t 5 rfl)) <| .cons (.of (.t 0 rfl)) <| .nil)) <| .p rfl (op_assign (.t 0 rfl)) <| .nil _ _) (by kernel_rfl) (fun n14 a w hst => ?_)
      replace hst : St M w0 79 [(9, ti t51), (8, ti s49.1), (5, tv (n1 2)), (0, ti n_), (1, tsl rSDiff l_)] [rows rI 3 s49.2 us46, own rVal 22 us46 (n1 2)] a w := (hst.pick [7, 9, 10, 11, 12])
      refine hK65 _ _ ?_
      try clear hK65 K65
      refine wp_seq_k (fun K66 hK66 => ?_)
      obtain ⟨t55, ht55, h⟩ := bind_some h
      obtain ⟨t58, ht58, h⟩ := bind_some h
      refine wp_reg mixed [] hst (fun _ => .p rfl (op_move (.t 3 rfl)) <| .p rfl (op_move (.t 5 rfl)) <| .p rfl (op_move (.t 3 rfl)) <| .p rfl (op_index Try.underlying48 tok71 (.t 1 rfl) (.t 0 rfl) ht55) <| .p rfl (op_field fld71_1 (.t 0 rfl)) <| .p rfl (op_loadT (u := (t55).B) tok3 (.t 0 rfl) rfl) <| .p rfl (op_callF call66 (row_ok ht58) (.cons (.of (.t 5 rfl)) <| .cons (.of (.t 0 rfl)) <| .nil)) <| .p rfl (op_assign (.t 0 rfl)) <| .nil _ _) (by kernel_rfl) (fun n15 a w hst => ?_)
      replace hst : St M w0 79 [(10, ti t58), (9, ti t51), (8, ti s49.1), (5, tv (n1 2)), (0, ti n_), (1, tsl rSDiff l_)] [rows rI 3 s49.2 us46, own rVal 22 us46 (n1 2)] a w := (hst.pick [7, 8, 9, 10, 11, 12])
      refine hK66 _ _ ?_
      try clear hK66 K66
      obtain ⟨r67, hr67, h⟩ := bind_some h
      obtain ⟨t69, ht69, h⟩ := bind_some h
      obtain ⟨t73, ht73, h⟩ := bind_some h
      obtain ⟨t77s, ht77s, h⟩ := bind_some h
      obtain ⟨m68, hm68, h⟩ := bind_some h
      refine wp_reg mixed [v0 (rows rI 3 m68 us46)] hst (fun _ => .p rfl (op_move (.t 3 rfl)) <| .p rfl (op_move (.t 2 rfl)) <| .u [1, 0] rfl rfl (op_indexT Try.underlying26 tokV22 (.t 1 rfl) (.t 0 rfl) hr67) <| .u [1, 0] rfl rfl (op_loadT2 tokV22 (.t 0 rfl) hr67) <| .p rfl (op_move (.t 4 rfl)) <| .p rfl (op_move (.t 8 rfl)) <| .p rfl (op_move (.t 7 rfl)) <| .u [1, 0] rfl rfl (op_indexT Try.underlying26 tokV22 (.t 1 rfl) (.t 0 rfl) hr67) <| .u [1, 0] rfl rfl (op_loadT2 tokV22 (.t 0 rfl) hr67) <| .p rfl (op_move (.t 9 rfl)) <| .u [0] rfl rfl (op_indexRi Try.underlying22 tok3 (.t 1 rfl) (.t 0 rfl) hr67 ht69) <| .u [0] rfl rfl (op_loadR tok3 (.t 0 rfl) hr67 ht69) <| .p rfl (op_move (.t 17 rfl)) <| .p rfl (op_move (.t 15 rfl)) <| .p rfl (op_index Try.underlying48 tok71 (.t 1 rfl) (.t 0 rfl) ht73) <| .p rfl (op_field fld71_2 (.t 0 rfl)) <| .p rfl (op_loadT (u := (t73).N) tok3 (.t 0 rfl) rfl) <| .p rfl (op_min (.t 5 rfl) (.t 0 rfl)) <| .u [0] rfl rfl (op_indexRs Try.underlying22 tok3 (.t 14 rfl) (.t 13 rfl) hr67 ht77s) <| .e [] [0] [2] rfl rfl rfl rfl (op_storeR tok3 (.t 0 rfl) (.t 1 rfl) hr67 ht77s hm68) <| .nil _ _) (by kernel_rfl) (fun n16 a w hst => ?_)
      replace hst : St M w0 79 [(59, tv (n1 2)), (64, tv (n1 2)), (8, ti s49.1), (5, tv (n1 2)), (0, ti n_), (1, tsl rSDiff l_)] [own rVal 22 us46 (n1 2), rows rI 3 m68 us46] a w := (hst.pick [0, 5, 21, 22, 23, 24])
      refine hK64 _ _ ?_
      try clear hK64 K64
      refine wp_reg mixed [] hst (fun _ => .p rfl (op_move (.t 2 rfl)) <| .p rfl (op_add (.t 0 rfl) .k) <| .p rfl (op_assign (.t 0 rfl)) <| .nil _ _) (by kernel_rfl) (fun n13 a w hst => ?_)
      replace hst : St M w0 79 [(8, ti (IntKind.i64.wrap (s49.1 + (1:Int)))), (59, tv (n1 2)), (64, tv (n1 2)), (5, tv (n1 2)), (0, ti n_), (1, tsl rSDiff l_)] [own rVal 22 us46 (n1 2), rows rI 3 m68 us46] a w := (hst.pick [2, 3, 4, 5, 6, 7])
      exact hK61 _ _ _ (Option.some.inj h).symm ((hst.pick [0, 3, 4, 5]).selA [1, 0] rfl)
    · replace h := ite_f b69 h
      refine wp_exit ?_
      exact hJp59 _ _ _ (ho _ (Option.some.inj h).symm) (hst.pick [2])
  refine wp_block ?_
  refine wp_loopK _ (fun (s7 : Int × List (List Int)) a w => ∃ us8 : List Value, St M w0 79 [(6, ti s7.1), (5, tv (n1 2)), (0, ti n_), (1, tsl rSDiff l_)] [rows rI 3 s7.2 us8, own rVal 22 us8 (n1 2)] a w) _ _ he9 ⟨(List.replicate ((IntKind.i64.wrap (n_ + (1:Int)))).toNat nilV), hst.pick [0, 2, 3, 4]⟩ ?_
  clear h
  intro s7 o a w K70 hI h ho hK70
  obtain ⟨us8, hst⟩ := hI
  refine wp_seq_k (fun K71 hK71 => ?_)
  refine wp_seq_k (fun K72 hK72 => ?_)
  refine wp_reg mixed [] hst (fun _ => .p rfl (op_move (.t 0 rfl)) <| .p rfl (op_move (.t 3 rfl)) <| .p rfl (op_leq (.t 1 rfl) (.t 0 rfl)) <| .nil _ _) (by kernel_rfl) (fun n3 a w hst => ?_)
  replace hst : St M w0 79 [(16, tb (decide (s7.1 ≤ n_))), (6, ti s7.1), (5, tv (n1 2)), (0, ti n_), (1, tsl rSDiff l_)] [rows rI 3 s7.2 us8, own rVal 22 us8 (n1 2)] a w := (hst.pick [2, 3, 4, 5, 6])
  refine hK72 _ _ ?_
  try clear hK72 K72
  refine wp_test 0 hst rfl (fun b105 => ?_) (fun b105 => ?_)
  · replace h := ite_t b105 h
    refine wp_skip ?_
    refine hK71 _ _ ?_
    try clear hK71 K71
    refine wp_seq_k (fun K73 hK73 => ?_)
    refine wp_block ?_
    refine wp_seq_k (fun K74 hK74 => ?_)
    obtain ⟨t23, ht23, h⟩ := bind_some h
    obtain ⟨w24s, hw24s, h⟩ := bind_some h
    refine wp_reg mixed [v1 4 (fun v0 => own rI 3 t23 v0), v1 4 (fun v0 => own rVal 22 (us8.set (s7.1).toNat v0) (n1 2))] hst (fun _ => .p rfl (op_move (.t 2 rfl)) <| .p rfl (op_move (.t 2 rfl)) <| .p rfl (op_move (.t 5 rfl)) <| .p rfl (op_add (.t 0 rfl) .k) <| .m [] [2] rfl rfl rfl (op_makeO (R := rI) Try.underlying22 tok3 zok3 (Nat.le_of_ble_eq_true rfl) (.t 0 rfl) (.t 0 rfl) ht23) <| .u [1, 0] rfl rfl (op_indexTs Try.underlying26 tokV22 (.t 4 rfl) (.t 3 rfl) hw24s) <| .e [0, 2] [1] [3] rfl rfl rfl rfl (op_putT (e1 := 22) (e2 := 3) tokV22 (.t 0 rfl) (.t 1 rfl) hw24s) <| .nil _ _) (by kernel_rfl) (fun n5 a w hst => ?_)
    replace hst : St M w0 79 [(19, tv (n1 2)), (23, tv (n5 4)), (6, ti s7.1), (5, tv (n1 2)), (0, ti n_), (1, tsl rSDiff l_)] [rows rI 3 w24s (us8.set (s7.1).toNat (n5 4)), own rVal 22 (us8.set (s7.1).toNat (n5 4)) (n1 2)] a w := (((hst.pick [0, 4, 7, 8, 9, 10]).selA [1, 0, 2] rfl).put (s7.1) hw24s)
    refine hK74 _ _ ?_
    try clear hK74 K74
    refine wp_seq_k (fun K76 hK76 => ?_)
    refine wp_reg mixed [] hst (fun _ => .p rfl (op_assign .k) <| .nil _ _) (by kernel_rfl) (fun n6 a w hst => ?_)
    replace hst : St M w0 79 [(7, ti (0:Int)), (19, tv (n1 2)), (6, ti s7.1), (5, tv (n1 2)), (0, ti n_), (1, tsl rSDiff l_)] [rows rI 3 w24s (us8.set (s7.1).toNat (n5 4)), own rVal 22 (us8.set (s7.1).toNat (n5 4)) (n1 2)] a w := (hst.pick [0, 1, 3, 4, 5, 6])
    refine hK76 _ _ ?_
    try clear hK76 K76
    obtain ⟨e78, he78, h⟩ := bind_some h
    have hJp91 : ∀ (p91 : List (List Int)) a w, p91 = e78 → St M w0 79 [(6, ti s7.1), (5, tv (n1 2)), (0, ti n_), (1, tsl rSDiff l_)] [rows rI 3 p91 (us8.set (s7.1).toNat (n5 4)), own rVal 22 (us8.set (s7.1).toNat (n5 4)) (n1 2)] a w → K73 a w := by
      intro p91 a w he hst
      subst he
      refine hK73 _ _ ?_
      try clear hK73 K73
      refine wp_reg mixed [] hst (fun _ => .p rfl (op_move (.t 0 rfl)) <| .p rfl (op_add (.t 0 rfl) .k) <| .p rfl (op_assign (.t 0 rfl)) <| .nil _ _) (by kernel_rfl) (fun n4 a w hst => ?_)
      replace hst : St M w0 79 [(6, ti (IntKind.i64.wrap (s7.1 + (1:Int)))), (5, tv (n1 2)), (0, ti n_), (1, tsl rSDiff l_)] [rows rI 3 p91 (us8.set (s7.1).toNat (n5 4)), own rVal 22 (us8.set (s7.1).toNat (n5 4)) (n1 2)] a w := (hst.pick [2, 3, 4, 5])
      exact hK70 _ _ _ (Option.some.inj h).symm ⟨(us8.set (s7.1).toNat (n5 4)), hst.pick [0, 1, 2, 3]⟩
    refine wp_block ?_
    refine wp_loopK _ (fun (s77 : Int × List (List Int)) a w => St M w0 79 [(7, ti s77.1), (6, ti s7.1), (5, tv (n1 2)), (0, ti n_), (1, tsl rSDiff l_)] [rows rI 3 s77.2 (us8.set (s7.1).toNat (n5 4)), own rVal 22 (us8.set (s7.1).toNat (n5 4)) (n1 2)] a w) _ _ he78 (hst.pick [0, 2, 3, 4, 5]) ?_
    clear h
    intro s77 o a w K92 hI h ho hK92
    have hst := hI
    clear hI
    refine wp_seq_k (fun K93 hK93 => ?_)
    refine wp_seq_k (fun K94 hK94 => ?_)
    refine wp_reg mixed [] hst (fun _ => .p rfl (op_move (.t 0 rfl)) <| .p rfl (op_move (.t 4 rfl)) <| .p rfl (op_leq (.t 1 rfl) (.t 0 rfl)) <| .nil _ _) (by kernel_rfl) (fun n7 a w hst => ?_)
    replace hst : St M w0 79 [(27, tb (decide (s77.1 ≤ n_))), (7, ti s77.1), (6, ti s7.1), (5, tv (n1 2)), (0, ti n_), (1, tsl rSDiff l_)] [rows rI 3 s77.2 (us8.set (s7.1).toNat (n5 4)), own rVal 22 (us8.set (s7.1).toNat (n5 4)) (n1 2)] a w := (hst.pick [2, 3, 4, 5, 6, 7])
    refine hK94 _ _ ?_
    try clear hK94 K94
    refine wp_test 0 hst rfl (fun b104 => ?_) (fun b104 => ?_)
    · replace h := ite_t b104 h
      refine wp_skip ?_
      refine hK93 _ _ ?_
      try clear hK93 K93
      refine wp_seq_k (fun K95 hK95 => ?_)
      refine wp_block ?_
      refine wp_seq_k (fun K96 hK96 => ?_)
      refine wp_reg mixed [] hst (fun _ => .p rfl (op_move (.t 2 rfl)) <| .p rfl (op_move (.t 2 rfl)) <| .p rfl (op_neq (.t 1 rfl) (.t 0 rfl)) <| .nil _ _) (by kernel_rfl) (fun n9 a w hst => ?_)
      replace hst : St M w0 79 [(32, tb (s7.1 != s77.1)), (7, ti s77.1), (6, ti s7.1), (5, tv (n1 2)), (0, ti n_), (1, tsl rSDiff l_)] [rows rI 3 s77.2 (us8.set (s7.1).toNat (n5 4)), own rVal 22 (us8.set (s7.1).toNat (n5 4)) (n1 2)] a w := (hst.pick [2, 4, 5, 6, 7, 8])
      refine hK96 _ _ ?_
      try clear hK96 K96
      obtain ⟨p97, hp97, h⟩ := bind_some h
      have hJp97 : ∀ a w, St M w0 79 [(7, ti s77.1), (6, ti s7.1), (5, tv (n1 2)), (0, ti n_), (1, tsl rSDiff l_)] [own rVal 22 (us8.set (s7.1).toNat (n5 4)) (n1 2), rows rI 3 p97 (us8.set (s7.1).toNat (n5 4))] a w → K95 a w := by
        intro a w hst
        refine hK95 _ _ ?_
        try clear hK95 K95
        refine wp_reg mixed [] hst (fun _ => .p rfl (op_move (.t 0 rfl)) <| .p rfl (op_add (.t 0 rfl) .k) <| .p rfl (op_assign (.t 0 rfl)) <| .nil _ _) (by kernel_rfl) (fun n8 a w hst => ?_)
        replace hst : St M w0 79 [(7, ti (IntKind.i64.wrap (s77.1 + (1:Int)))), (6, ti s7.1), (5, tv (n1 2)), (0, ti n_), (1, tsl rSDiff l_)] [own rVal 22 (us8.set (s7.1).toNat (n5 4)) (n1 2), rows rI 3 p97 (us8.set (s7.1).toNat (n5 4))] a w := (hst.pick [2, 3, 4, 5, 6])
        exact hK92 _ _ _ (Option.some.inj h).symm ((hst.pick [0, 1, 2, 3, 4]).selA [1, 0] rfl)
      replace h := hp97
      clear hp97
      refine wp_test 0 hst rfl (fun b103 => ?_) (fun b103 => ?_)
      · replace h := ite_t b103 h
        obtain ⟨r101, hr101, h⟩ := bind_some h
        obtain ⟨t38s, ht38s, h⟩ := bind_some h
        obtain ⟨m102, hm102, h⟩ := bind_some h
        refine wp_reg mixed [v0 (rows rI 3 m102 (us8.set (s7.1).toNat (n5 4)))] hst (fun _ => .p rfl (op_move (.t 3 rfl)) <| .p rfl (op_move (.t 3 rfl)) <| .u [1, 0] rfl rfl (op_indexT Try.underlying26 tokV22 (.t 1 rfl) (.t 0 rfl) hr101) <| .u [1, 0] rfl rfl (op_loadT2 tokV22 (.t 0 rfl) hr101) <| .p rfl (op_move (.t 5 rfl)) <| .u [0] rfl rfl (op_indexRs Try.underlying22 tok3 (.t 1 rfl) (.t 0 rfl) hr101 ht38s) <| .e [] [0] [2] rfl rfl rfl rfl (op_storeR tok3 (.t 0 rfl) .k hr101 ht38s hm102) <| .nil _ _) (by kernel_rfl) (fun n10 a w hst => ?_)
        replace hst : St M w0 79 [(33, tv (n1 2)), (7, ti s77.1), (6, ti s7.1), (5, tv (n1 2)), (0, ti n_), (1, tsl rSDiff l_)] [own rVal 22 (us8.set (s7.1).toNat (n5 4)) (n1 2), rows rI 3 m102 (us8.set (s7.1).toNat (n5 4))] a w := (hst.pick [0, 7, 8, 9, 10, 11])
        obtain rfl := Option.some.inj h
        exact hJp97 _ _ (hst.pick [1, 2, 3, 4, 5])
      · replace h := ite_f b103 h
        refine wp_skip ?_
        obtain rfl := Option.some.inj h
        exact hJp97 _ _ ((hst.pick [1, 2, 3, 4, 5]).selA [1, 0] rfl)
    · replace h := ite_f b104 h
      refine wp_exit ?_
      exact hJp91 _ _ _ (ho _ (Option.some.inj h).symm) (hst.pick [2, 3, 4, 5])
  · replace h := ite_f b105 h
    refine wp_exit ?_
    exact hJp45 _ us8 _ _ (ho _ (Option.some.inj h).symm) (hst.pick [2, 3, 4])

/- slices.Repeat[[]int,int] -/
noncomputable def fRepeat (x_ : (List Int)) (count_ : Int) : Option ((List Int)) := (if (decide (count_ < (0:Int))) = true then none else (fBMul (IntKind.u64.wrap (x_.length : Int)) (IntKind.u64.wrap count_)).bind fun t18 => (if ((decide (t18.1 > (0:Int))) || (decide (t18.2 > (9223372036854775807:Int)))) = true then none else (mk (IntKind.i64.wrap t18.2) (0:Int)).bind fun t30 => (tailrec (fun (s11 : Int × List Int) => ((if (decide (s11.1 < (s11.2.length : Int))) = true then (sub s11.2 s11.1 (s11.2.length : Int)).bind fun t41 => (sub s11.2 (0:Int) s11.1).bind fun t44 => (some (.inl ((IntKind.i64.wrap (s11.1 + (Nat.min t44.length t41.length : Int))), (s11.2.take (s11.1).toNat ++ cpy t41 t44 ++ s11.2.drop ((s11.2.length : Int)).toNat)))) else (some (.inr s11.2))) : Option ((Int × List Int) ⊕ ((List Int))))) ((Nat.min x_.length t30.length : Int), (cpy t30 x_))).bind fun (p16 : (List Int)) => (some p16)))
set_option maxRecDepth 100000 in
set_option maxHeartbeats 4000000 in
theorem Repeat_ok {x_ : (List Int)} {count_ : Int} {r : (List Int)} (h : fRepeat x_ count_ = some r) : FnOk Try.prog 83 [tsl rI x_, ti count_] [] (fun v => [own rI 3 r v]) (fun v => tv v) := by
  unfold fRepeat at h
  refine FnOk.enter Try.func83 rfl Try.ntmps83 (Nat.le_of_ble_eq_true rfl) (fun M0 M w0 a hpl hst => ?_)
  replace hst : St M w0 48 [(0, tsl rI x_), (1, ti count_)] [] a w0 := hst
  refine wp_seq_k (fun K1 hK1 => ?_)
  refine wp_reg mixed [] hst (fun _ => .p rfl (op_assign .k) <| .nil _ _) (by kernel_rfl) (fun n0 a w hst => ?_)
  replace hst : St M w0 48 [(0, tsl rI x_), (1, ti count_)] [] a w := (hst.pick [1, 2])
  refine hK1 _ _ ?_
  try clear hK1 K1
  refine wp_seq_k (fun K2 hK2 => ?_)
  refine wp_seq_k (fun K3 hK3 => ?_)
  refine wp_reg mixed [] hst (fun _ => .p rfl (op_move (.t 1 rfl)) <| .p rfl (op_lss (.t 0 rfl) .k) <| .nil _ _) (by kernel_rfl) (fun n1 a w hst => ?_)
  replace hst : St M w0 48 [(10, tb (decide (count_ < (0:Int)))), (0, tsl rI x_), (1, ti count_)] [] a w := (hst.pick [1, 2, 3])
  refine hK3 _ _ ?_
  try clear hK3 K3
  refine wp_test 0 hst rfl (fun b23 => ?_) (fun b23 => ?_)
  · replace h := ite_t b23 h
    cases h
  · replace h := ite_f b23 h
    refine wp_skip ?_
    refine hK2 _ _ ?_
    try clear hK2 K2
    refine wp_seq_k (fun K4 hK4 => ?_)
    obtain ⟨t18, ht18, h⟩ := bind_some h
    refine wp_reg mixed [] hst (fun _ => .p rfl (op_move (.t 1 rfl)) <| .p rfl (op_len Try.underlying22 (.t 0 rfl)) <| .p rfl (op_conv Try.underlying3 Try.underlying107 (.t 0 rfl)) <| .p rfl (op_move (.t 5 rfl)) <| .p rfl (op_conv Try.underlying3 Try.underlying107 (.t 0 rfl)) <| .p rfl (op_callF call87 (BMul_ok ht18) (.cons (.of (.t 2 rfl)) <| .cons (.of (.t 0 rfl)) <| .nil)) <| .p rfl (op_move (.t 0 rfl)) <| .p rfl (op_extract (.t 0 rfl) rfl) <| .p rfl (op_extract (.t 1 rfl) rfl) <| .p rfl (op_assign (.t 1 rfl)) <| .p rfl (op_assign (.t 1 rfl)) <| .nil _ _) (by kernel_rfl) (fun n3 a w hst => ?_)
    replace hst : St M w0 48 [(5, tv (.int .u64 t18.1)), (6, tv (.int .u64 t18.2)), (0, tsl rI x_)] [] a w := (hst.pick [9, 10, 12])
    refine hK4 _ _ ?_
    try clear hK4 K4
    refine wp_seq_k (fun K5 hK5 => ?_)
    refine wp_seq_k (fun K6 hK6 => ?_)
    refine wp_reg mixed [] hst (fun _ => .p rfl (op_move (.t 0 rfl)) <| .p rfl (op_gtr (.t 0 rfl) .k) <| .p rfl (op_move (.t 0 rfl)) <| .g rfl rfl (.b 0 rfl) (fun _ => op_move (.t 4 rfl)) <| .g rfl rfl (.b 1 rfl) (fun hc => op_gtr (.cond (.t 0 rfl) hc) .k) <| .p rfl (op_or (.t 2 rfl) (fun hp => (.cond (.t 0 rfl) (beqF hp)))) <| .nil _ _) (by kernel_rfl) (fun n4 a w hst => ?_)
    replace hst : St M w0 48 [(26, tb ((decide (t18.1 > (0:Int))) || (decide (t18.2 > (9223372036854775807:Int))))), (6, tv (.int .u64 t18.2)), (0, tsl rI x_)] [] a w := (hst.pick [5, 7, 8])
    refine hK6 _ _ ?_
    try clear hK6 K6
    refine wp_test 0 hst rfl (fun b22 => ?_) (fun b22 => ?_)
    · replace h := ite_t b22 h
      cases h
    · replace h := ite_f b22 h
      refine wp_skip ?_
      refine hK5 _ _ ?_
      try clear hK5 K5
      refine wp_seq_k (fun K7 hK7 => ?_)
      obtain ⟨t30, ht30, h⟩ := bind_some h
      refine wp_reg mixed [v1 2 (fun v0 => own rI 3 t30 v0)] hst (fun _ => .p rfl (op_move (.t 1 rfl)) <| .p rfl (op_conv Try.underlying107 Try.underlying3 (.t 0 rfl)) <| .m [] [0] rfl rfl rfl (op_makeO (R := rI) Try.underlying22 tok3 zok3 (Nat.le_of_ble_eq_true rfl) (.t 0 rfl) (.t 0 rfl) ht30) <| .ud (f := fun v => tv v) 2 rfl [] rfl rfl (op_assign (.t 0 rfl)) <| .nil _ _) (by kernel_rfl) (fun n6 a w hst => ?_)
      replace hst : St M w0 48 [(30, tv (n6 2)), (7, tv (n6 2)), (0, tsl rI x_)] [own rI 3 t30 (n6 2)] a w := (hst.pick [2, 3, 6])
      refine hK7 _ _ ?_
      try clear hK7 K7
      refine wp_seq_k (fun K9 hK9 => ?_)
      refine wp_reg mixed [v0 (own rI 3 (cpy t30 x_) (n6 2))] hst (fun _ => .p rfl (op_move (.t 1 rfl)) <| .p rfl (op_move (.t 3 rfl)) <| .e [] [0] [1] rfl rfl rfl rfl (op_copy (R := rI) Try.underlying22 rfl tok3 (.t 1 rfl) (.t 0 rfl)) <| .p rfl (op_assign (.t 0 rfl)) <| .nil _ _) (by kernel_rfl) (fun n7 a w hst => ?_)
      replace hst : St M w0 48 [(31, tv (n6 2)), (8, ti (Nat.min x_.length t30.length : Int)), (30, tv (n6 2)), (7, tv (n6 2))] [own rI 3 (cpy t30 x_) (n6 2)] a w := (hst.pick [0, 3, 4, 5])
      refine hK9 _ _ ?_
      try clear hK9 K9
      refine wp_seq_k (fun K10 hK10 => ?_)
      obtain ⟨e12, he12, h⟩ := bind_some h
      have hJp16 : ∀ (p16 : List Int) a w, p16 = e12 → St M w0 48 [(7, tv (n6 2))] [own rI 3 p16 (n6 2)] a w → K10 a w := by
        intro p16 a w he hst
        subst he
        refine hK10 _ _ ?_
        try clear hK10 K10
        refine wp_seq_k (fun K17 hK17 => ?_)
        refine wp_reg mixed [] hst (fun _ => .p rfl (op_move (.t 0 rfl)) <| .p rfl (op_assign (.t 0 rfl)) <| .nil _ _) (by kernel_rfl) (fun n10 a w hst => ?_)
        replace hst : St M w0 48 [(47, tv (n6 2)), (4, tv (n6 2)), (7, tv (n6 2))] [own rI 3 p16 (n6 2)] a w := (hst.pick [0, 1, 2])
        refine hK17 _ _ ?_
        try clear hK17 K17
        refine wp_ret ?_
        obtain rfl := Option.some.inj h
        exact ret_st (n6 2) [0] hpl hst rfl (.tmp (.t 1 rfl) .nil) rfl rfl rfl
      refine wp_block ?_
      refine wp_loopK _ (fun (s11 : Int × List Int) a w => St M w0 48 [(8, ti s11.1), (7, tv (n6 2))] [own rI 3 s11.2 (n6 2)] a w) _ _ he12 (hst.pick [1, 3]) ?_
      clear h
      intro s11 o a w K18 hI h ho hK18
      have hst := hI
      clear hI
      refine wp_seq_k (fun K19 hK19 => ?_)
      refine wp_seq_k (fun K20 hK20 => ?_)
      refine wp_reg mixed [] hst (fun _ => .p rfl (op_move (.t 0 rfl)) <| .p rfl (op_move (.t 2 rfl)) <| .u [0] rfl rfl (op_lenO Try.underlying22 (.t 0 rfl)) <| .p rfl (op_lss (.t 2 rfl) (.t 0 rfl)) <| .nil _ _) (by kernel_rfl) (fun n8 a w hst => ?_)
      replace hst : St M w0 48 [(35, tv (n6 2)), (37, tb (decide (s11.1 < (s11.2.length : Int)))), (8, ti s11.1), (7, tv (n6 2))] [own rI 3 s11.2 (n6 2)] a w := (hst.pick [1, 3, 4, 5])
      refine hK20 _ _ ?_
      try clear hK20 K20
      refine wp_test 1 hst rfl (fun b21 => ?_) (fun b21 => ?_)
      · replace h := ite_t b21 h
        refine wp_skip ?_
        refine hK19 _ _ ?_
        try clear hK19 K19
        refine wp_block ?_
        obtain ⟨t41, ht41, h⟩ := bind_some h
        obtain ⟨t44, ht44, h⟩ := bind_some h
        refine wp_reg mixed [v0 (own rI 3 (s11.2.take (s11.1).toNat ++ cpy t41 t44 ++ s11.2.drop ((s11.2.length : Int)).toNat) (n6 2))] hst (fun _ => .p rfl (op_move (.t 2 rfl)) <| .p rfl (op_move (.t 4 rfl)) <| .p rfl (op_move (.t 4 rfl)) <| .u [0] rfl rfl (op_cut (R := rI) Try.underlying22 tok3 (.t 1 rfl) (.op (.t 0 rfl)) (.no _) ht41) <| .p rfl (op_move (.t 7 rfl)) <| .p rfl (op_move (.t 7 rfl)) <| .u [0] rfl rfl (op_cut (R := rI) Try.underlying22 tok3 (.t 1 rfl) (.no _) (.op (.t 0 rfl)) ht44) <| .e [] [0] [1] rfl rfl rfl rfl (op_copyCut (R := rI) (xs := s11.2) Try.underlying22 rfl tok3 (.t 3 rfl) (.t 0 rfl) ht41 ht44) <| .p rfl (op_add (.t 7 rfl) (.t 0 rfl)) <| .p rfl (op_assign (.t 0 rfl)) <| .nil _ _) (by kernel_rfl) (fun n9 a w hst => ?_)
        replace hst : St M w0 48 [(39, tv (n6 2)), (42, tv (n6 2)), (8, ti (IntKind.i64.wrap (s11.1 + (Nat.min t44.length t41.length : Int)))), (35, tv (n6 2)), (7, tv (n6 2))] [own rI 3 (s11.2.take (s11.1).toNat ++ cpy t41 t44 ++ s11.2.drop ((s11.2.length : Int)).toNat) (n6 2)] a w := (hst.pick [1, 4, 9, 10, 12])
        exact hK18 _ _ _ (Option.some.inj h).symm (hst.pick [2, 4])
      · replace h := ite_f b21 h
        refine wp_exit ?_
        exact hJp16 _ _ _ (ho _ (Option.some.inj h).symm) (hst.pick [3])


end Go.Proofs.Ytjniiejgccdhiaa
