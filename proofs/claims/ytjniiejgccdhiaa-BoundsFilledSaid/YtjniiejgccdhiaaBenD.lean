/- Go functions as Lean functions, and the proofs that they compute them, written by a program. No condition. -/
import Derived.Test.YtjniiejgccdhiaaBenC
namespace Go.Proofs.Ytjniiejgccdhiaa
open Go.Sim

/- diorama/bounds.cycle$1 -/
noncomputable def fcycle1 (v_ : Int) (s_ : Int) (n_ : Int) (c0_ : (List (List Int))) (c1_ : Int) : Option (Bool) := (idx c0_ s_).bind fun t11 => (idx t11 v_).bind fun t14 => (opt ((decide (t14 < (1099511627776:Int))) == true) (idx c0_ s_) default).bind fun t23 => (opt ((decide (t14 < (1099511627776:Int))) == true) (idx t23 v_) default).bind fun t26 => (some ((decide (t14 < (1099511627776:Int))) && (decide ((IntKind.i64.wrap ((IntKind.i64.wrap (c1_ + n_)) + t26)) < (0:Int)))))
set_option maxRecDepth 100000 in
set_option maxHeartbeats 4000000 in
theorem cycle1_ok {v_ : Int} {s_ : Int} {n_ : Int} {c0_ : (List (List Int))} {c1_ : Int} {r : Bool} (h : fcycle1 v_ s_ n_ c0_ c1_ = some r) : FnOk Try.prog 84 [ti v_, ti s_, ti n_, tptr ((rSl (rSl rI)).cs c0_), tptr (rI.cs c1_)] [] (fun _ => []) (fun _ => tb r) := by
  unfold fcycle1 at h
  refine FnOk.enter Try.func84 rfl Try.ntmps84 (Nat.le_of_ble_eq_true rfl) (fun M0 M w0 a hpl hst => ?_)
  replace hst : St M w0 31 [(0, ti v_), (1, ti s_), (2, ti n_), (3, tptr ((rSl (rSl rI)).cs c0_)), (4, tptr (rI.cs c1_))] [] a w0 := hst
  refine wp_seq_k (fun K1 hK1 => ?_)
  refine wp_reg mixed [] hst (fun _ => .p rfl (op_assign .k) <| .nil _ _) (by kernel_rfl) (fun n0 a w hst => ?_)
  replace hst : St M w0 31 [(0, ti v_), (1, ti s_), (2, ti n_), (3, tptr ((rSl (rSl rI)).cs c0_)), (4, tptr (rI.cs c1_))] [] a w := (hst.pick [1, 2, 3, 4, 5])
  refine hK1 _ _ ?_
  try clear hK1 K1
  refine wp_seq_k (fun K2 hK2 => ?_)
  obtain ⟨t11, ht11, h⟩ := bind_some h
  obtain ⟨t14, ht14, h⟩ := bind_some h
  obtain ⟨t23, ht23, h⟩ := bind_some h
  obtain ⟨t26, ht26, h⟩ := bind_some h
  refine wp_reg mixed [] hst (fun _ => .p rfl (op_load tok26 (.t 3 rfl)) <| .p rfl (op_move (.t 2 rfl)) <| .p rfl (op_index Try.underlying26 tok22 (.t 1 rfl) (.t 0 rfl) ht11) <| .p rfl (op_load tok22 (.t 0 rfl)) <| .p rfl (op_move (.t 4 rfl)) <| .p rfl (op_index Try.underlying22 tok3 (.t 1 rfl) (.t 0 rfl) ht14) <| .p rfl (op_load tok3 (.t 0 rfl)) <| .p rfl (op_lss (.t 0 rfl) .k) <| .p rfl (op_move (.t 0 rfl)) <| .g rfl rfl (.b 0 rfl) (fun _ => op_load tok3 (.t 13 rfl)) <| .g rfl rfl (.b 1 rfl) (fun _ => op_move (.t 12 rfl)) <| .g rfl rfl (.b 2 rfl) (fun hc => op_add (.cond (.t 1 rfl) hc) (.cond (.t 0 rfl) hc)) <| .g rfl rfl (.b 3 rfl) (fun _ => op_load tok26 (.t 15 rfl)) <| .g rfl rfl (.b 4 rfl) (fun _ => op_move (.t 14 rfl)) <| .g rfl rfl (.b 5 rfl) (fun hc => op_index Try.underlying26 tok22 (.cond (.t 1 rfl) hc) (.cond (.t 0 rfl) hc) (opt_t ht23 hc)) <| .g rfl rfl (.b 6 rfl) (fun hc => op_load tok22 (.cond (.t 0 rfl) hc)) <| .g rfl rfl (.b 7 rfl) (fun _ => op_move (.t 16 rfl)) <| .g rfl rfl (.b 8 rfl) (fun hc => op_index Try.underlying22 tok3 (.cond (.t 1 rfl) hc) (.cond (.t 0 rfl) hc) (opt_t ht26 hc)) <| .g rfl rfl (.b 9 rfl) (fun hc => op_load tok3 (.cond (.t 0 rfl) hc)) <| .g rfl rfl (.b 10 rfl) (fun hc => op_add (.cond (.t 7 rfl) hc) (.cond (.t 0 rfl) hc)) <| .g rfl rfl (.b 11 rfl) (fun hc => op_lss (.cond (.t 0 rfl) hc) .k) <| .p rfl (op_and (.t 12 rfl) (fun hp => (.cond (.t 0 rfl) (beqT hp)))) <| .p rfl (op_assign (.t 0 rfl)) <| .nil _ _) (by kernel_rfl) (fun n1 a w hst => ?_)
  replace hst : St M w0 31 [(8, tb ((decide (t14 < (1099511627776:Int))) && (decide ((IntKind.i64.wrap ((IntKind.i64.wrap (c1_ + n_)) + t26)) < (0:Int)))))] [] a w := (hst.pick [22])
  refine hK2 _ _ ?_
  try clear hK2 K2
  refine wp_ret ?_
  obtain rfl := Option.some.inj h
  exact ret_st undef [] hpl hst rfl (.tmp (.t 0 rfl) .nil) rfl rfl rfl

/- diorama/bounds.cycle -/
noncomputable def fcycle (n_ : Int) (l_ : (List SEdge)) (first_ : Int) (many_ : Int) : Option ((List Int)) := (fRepeat [(1099511627776:Int)] (IntKind.i64.wrap (n_ + (1:Int)))).bind fun t25 => (idx [t25] (0:Int)).bind fun r8 => (idx l_ first_).bind fun t32 => (setAt r8 (t32).a (0:Int)).bind fun t35s => (setAt [t25] (0:Int) t35s).bind fun m9 => (tailrec (fun (s12 : Int × List (List Int)) => ((if (decide (s12.1 < many_)) = true then (fRepeat [(1099511627776:Int)] (IntKind.i64.wrap (n_ + (1:Int)))).bind fun t44 => (sub l_ (IntKind.i64.wrap (first_ + (1:Int))) (l_.length : Int)).bind fun t48 => (tailrec (fun (s201 : Int × List Int) => ((if (decide (s201.1 < (t48.length : Int))) = true then (idx t48 s201.1).bind fun t52 => (idx s12.2 (IntKind.i64.wrap (s12.1 - (1:Int)))).bind fun r223 => (idx r223 (t52).b).bind fun t61 => ((if (decide (t61 < (1099511627776:Int))) = true then (idx s201.2 (t52).a).bind fun t71 => (setAt s201.2 (t52).a (imin t71 (IntKind.i64.wrap (t61 + (t52).n)))).bind fun t78s => (some t78s) else (some s201.2))).bind fun (p225 : List Int) => (some (.inl ((IntKind.i64.wrap (s201.1 + (1:Int))), p225))) else (some (.inr s201.2))) : Option ((Int × List Int) ⊕ ((List Int))))) ((0:Int), t44)).bind fun (p215 : (List Int)) => (rm (s12.2.length + 1)).bind fun _ => (some (.inl ((IntKind.i64.wrap (s12.1 + (1:Int))), (s12.2 ++ [p215])))) else (some (.inr s12.2))) : Option ((Int × List (List Int)) ⊕ ((List (List Int)))))) ((1:Int), m9)).bind fun (p52 : (List (List Int))) => (idx l_ first_).bind fun t88 => (idx l_ first_).bind fun t93 => (fcycle1 (t88).b (IntKind.i64.wrap (many_ - (1:Int))) (0:Int) p52 (t93).n).bind fun t101 => (if (!t101) = true then (some ([] : List Int)) else (tailrec (fun (s65 : Int × Int × List Int × Int) => ((if (decide (s65.1 ≥ (0:Int))) = true then ((tailrec (fun (s165 : Int × Int × List Int × Int) => ((if (decide (s165.1 < (l_.length : Int))) = true then (idx l_ s165.1).bind fun t119 => (opt (((t119).a == s165.2.1) == true) (fcycle1 (t119).b s65.1 (t119).n p52 s165.2.2.2) default).bind fun t132 => (if (((t119).a == s165.2.1) && t132) = true then (rm (s165.2.2.1.length + [s165.1].length)).bind fun _ => (some (.inr (.inr ((t119).b, (s165.2.2.1 ++ [s165.1]), (IntKind.i64.wrap (s165.2.2.2 + (t119).n)))))) else (some (.inl ((IntKind.i64.wrap (s165.1 + (1:Int))), s165.2.1, s165.2.2.1, s165.2.2.2)))) else (some (.inr (.inl (s165.2.1, s165.2.2.1, s165.2.2.2))))) : Option ((Int × Int × List Int × Int) ⊕ ((Int × List Int × Int) ⊕ (Int × List Int × Int))))) ((IntKind.i64.wrap (first_ + (1:Int))), s65.2.1, s65.2.2.1, s65.2.2.2)).bind fun (e167 : (Int × List Int × Int) ⊕ (Int × List Int × Int)) => (match e167 with | .inl p177 => (some (p177.1, p177.2.1, p177.2.2)) | .inr p179 => (some (p179.1, p179.2.1, p179.2.2)))).bind fun (p135 : Int × List Int × Int) => (some (.inl ((IntKind.i64.wrap (s65.1 - (1:Int))), p135.1, p135.2.1, p135.2.2))) else (some (.inr s65.2.2.1))) : Option ((Int × Int × List Int × Int) ⊕ ((List Int))))) ((IntKind.i64.wrap (many_ - (2:Int))), (t88).b, [first_], (t93).n)).bind fun (p128 : (List Int)) => (ne p128).bind fun _ => (some p128))
set_option maxRecDepth 100000 in
set_option maxHeartbeats 4000000 in
theorem cycle_ok {n_ : Int} {l_ : (List SEdge)} {first_ : Int} {many_ : Int} {r : (List Int)} (h : fcycle n_ l_ first_ many_ = some r) : FnOk Try.prog 64 [ti n_, tsl rSEdge l_, ti first_, ti many_] [] (fun _ => []) (fun _ => tsn rI r) := by
  unfold fcycle at h
  refine FnOk.enter Try.func64 rfl Try.ntmps64 (Nat.le_of_ble_eq_true rfl) (fun M0 M w0 a hpl hst => ?_)
  replace hst : St M w0 145 [(0, ti n_), (1, tsl rSEdge l_), (2, ti first_), (3, ti many_)] [] a w0 := hst
  refine wp_seq_k (fun K1 hK1 => ?_)
  refine wp_reg mixed [] hst (fun _ => .p rfl (op_assign (.nilsn (R := rI))) <| .nil _ _) (by kernel_rfl) (fun n0 a w hst => ?_)
  replace hst : St M w0 145 [(0, ti n_), (1, tsl rSEdge l_), (2, ti first_), (3, ti many_)] [] a w := (hst.pick [1, 2, 3, 4])
  refine hK1 _ _ ?_
  try clear hK1 K1
  refine wp_scope_straight ?_
  refine wp_seq_k (fun K2 hK2 => ?_)
  obtain ⟨t25, ht25, h⟩ := bind_some h
  refine wp_reg mixed [v1 3 (fun v0 => own rI 3 t25 v0), v2 3 4 (fun v0 v1 => own rVal 22 [v0] v1), v1 5 (fun v0 => box (rVal.cs nilV) v0), v2 4 5 (fun v0 v1 => box (rVal.cs v0) v1)] hst (fun _ => .p rfl (op_buildSl (R := rI) (us := [(1099511627776:Int)]) Try.underlying22 tok3 (.cons .k <| .nil _) rfl (Nat.le_of_ble_eq_true rfl)) <| .p rfl (op_move (.t 1 rfl)) <| .p rfl (op_add (.t 0 rfl) .k) <| .m [] [0] rfl rfl rfl (op_callF call83 (Repeat_ok ht25) (.cons (.of (.t 2 rfl)) <| .cons (.of (.t 0 rfl)) <| .nil)) <| .m [0] [1] rfl rfl rfl (op_hdrO (R := rI) (e := 3) (xs := t25) Try.underlying26 tokV22 (.t 0 rfl)) <| .m [] [2] rfl rfl rfl (op_allocV tokV26) <| .e [1] [2] [3] rfl rfl rfl rfl (op_storeBV (R := rVal) (e := 22) tokV26 (.t 0 rfl) (.t 1 rfl)) <| .nil _ _) (by kernel_rfl) (fun n1 a w hst => ?_)
  replace hst : St M w0 145 [(25, tv (n1 3)), (26, tv (n1 4)), (9, tv (n1 5)), (0, ti n_), (1, tsl rSEdge l_), (2, ti first_), (3, ti many_)] [rows rI 3 [t25] [(n1 3)], own rVal 22 [(n1 3)] (n1 4), box (rVal.cs (n1 4)) (n1 5)] a w := ((((hst.pick [3, 4, 5, 6, 7, 8, 9]).rowsN (rI) 3).selA [1, 0, 2, 3] rfl).push)
  refine hK2 _ _ ?_
  try clear hK2 K2
  refine wp_seq_k (fun K7 hK7 => ?_)
  obtain ⟨r8, hr8, h⟩ := bind_some h
  obtain ⟨t32, ht32, h⟩ := bind_some h
  obtain ⟨t35s, ht35s, h⟩ := bind_some h
  obtain ⟨m9, hm9, h⟩ := bind_some h
  refine wp_reg mixed [v0 (rows rI 3 m9 [(n1 3)])] hst (fun _ => .u [2] rfl rfl (op_loadBV tokV26 (.t 2 rfl)) <| .u [1, 0] rfl rfl (op_indexT Try.underlying26 tokV22 (.t 0 rfl) .k hr8) <| .u [1, 0] rfl rfl (op_loadT2 tokV22 (.t 0 rfl) hr8) <| .p rfl (op_move (.t 7 rfl)) <| .p rfl (op_move (.t 9 rfl)) <| .p rfl (op_index Try.underlying84 tok103 (.t 1 rfl) (.t 0 rfl) ht32) <| .p rfl (op_field fld103_0 (.t 0 rfl)) <| .p rfl (op_loadT (u := (t32).a) tok3 (.t 0 rfl) rfl) <| .u [0] rfl rfl (op_indexRs Try.underlying22 tok3 (.t 5 rfl) (.t 0 rfl) hr8 ht35s) <| .e [] [0] [3] rfl rfl rfl rfl (op_storeR tok3 (.t 0 rfl) .k hr8 ht35s hm9) <| .nil _ _) (by kernel_rfl) (fun n2 a w hst => ?_)
  replace hst : St M w0 145 [(27, tv (n1 4)), (26, tv (n1 4)), (9, tv (n1 5)), (0, ti n_), (1, tsl rSEdge l_), (2, ti first_), (3, ti many_)] [own rVal 22 [(n1 3)] (n1 4), box (rVal.cs (n1 4)) (n1 5), rows rI 3 m9 [(n1 3)]] a w := (hst.pick [0, 10, 11, 12, 13, 14, 15])
  refine hK7 _ _ ?_
  try clear hK7 K7
  refine wp_seq_k (fun K10 hK10 => ?_)
  refine wp_seq_k (fun K11 hK11 => ?_)
  refine wp_reg mixed [] hst (fun _ => .p rfl (op_assign .k) <| .nil _ _) (by kernel_rfl) (fun n3 a w hst => ?_)
  replace hst : St M w0 145 [(10, ti (1:Int)), (27, tv (n1 4)), (26, tv (n1 4)), (9, tv (n1 5)), (0, ti n_), (1, tsl rSEdge l_), (2, ti first_), (3, ti many_)] [own rVal 22 [(n1 3)] (n1 4), box (rVal.cs (n1 4)) (n1 5), rows rI 3 m9 [(n1 3)]] a w := (hst.pick [0, 1, 2, 3, 4, 5, 6, 7])
  refine hK11 _ _ ?_
  try clear hK11 K11
  obtain ⟨e15, he15, h⟩ := bind_some h
  have hJp52 : ∀ (p52 : List (List Int)) (v53 : Value) (us54 : List Value) a w, p52 = e15 → St M w0 145 [(9, tv (n1 5)), (1, tsl rSEdge l_), (2, ti first_), (3, ti many_)] [own rVal 22 us54 v53, box (rVal.cs v53) (n1 5), rows rI 3 p52 us54] a w → K10 a w := by
    intro p52 v53 us54 a w he hst
    subst he
    refine hK10 _ _ ?_
    try clear hK10 K10
    refine wp_seq_k (fun K55 hK55 => ?_)
    obtain ⟨t88, ht88, h⟩ := bind_some h
    obtain ⟨t93, ht93, h⟩ := bind_some h
    refine wp_reg mixed [v1 1 (fun v0 => own rI 3 [first_] v0), v1 12 (fun v0 => box (rI.cs (0:Int)) v0), v1 12 (fun v0 => box (rI.cs (t93).n) v0)] hst (fun _ => .p rfl (op_move (.t 2 rfl)) <| .m [] [3] rfl rfl rfl (op_buildSlO (R := rI) (us := [first_]) Try.underlying22 tok3 (.cons (.t 0 rfl) <| .nil _) rfl (Nat.le_of_ble_eq_true rfl) (Nat.le_of_ble_eq_true rfl)) <| .p rfl (op_move (.t 3 rfl)) <| .p rfl (op_move (.t 5 rfl)) <| .p rfl (op_index Try.underlying84 tok103 (.t 1 rfl) (.t 0 rfl) ht88) <| .p rfl (op_field fld103_1 (.t 0 rfl)) <| .p rfl (op_loadT (u := (t88).b) tok3 (.t 0 rfl) rfl) <| .p rfl (op_move (.t 8 rfl)) <| .p rfl (op_move (.t 10 rfl)) <| .p rfl (op_index Try.underlying84 tok103 (.t 1 rfl) (.t 0 rfl) ht93) <| .p rfl (op_field fld103_2 (.t 0 rfl)) <| .p rfl (op_loadT (u := (t93).n) tok3 (.t 0 rfl) rfl) <| .m [] [4] rfl rfl rfl (op_alloc (R := rI) (a := (0:Int)) tok3 zok3) <| .ud (f := fun v => tv v) 1 rfl [] rfl rfl (op_assign (.t 11 rfl)) <| .p rfl (op_assign (.t 7 rfl)) <| .e [] [4] [5] rfl rfl rfl rfl (op_storeB (R := rI) (a := (t93).n) tok3 (.t 2 rfl) (.t 3 rfl) (Nat.le_of_ble_eq_true rfl)) <| .nil _ _) (by kernel_rfl) (fun n15 a w hst => ?_)
    replace hst : St M w0 145 [(85, tv (n15 1)), (17, tv (n15 12)), (15, tv (n15 1)), (16, ti (t88).b), (9, tv (n1 5)), (1, tsl rSEdge l_), (2, ti first_), (3, ti many_)] [own rVal 22 us54 v53, box (rVal.cs v53) (n1 5), rows rI 3 p52 us54, own rI 3 [first_] (n15 1), box (rI.cs (t93).n) (n15 12)] a w := (hst.pick [1, 12, 13, 14, 15, 16, 17, 18])
    refine hK55 _ _ ?_
    try clear hK55 K55
    refine wp_seq_k (fun K58 hK58 => ?_)
    refine wp_reg mixed [] hst (fun _ => .p rfl (op_clo (.cons (.t 4 rfl) <| .cons (.t 1 rfl) <| .nil)) <| .p rfl (op_assign (.t 0 rfl)) <| .nil _ _) (by kernel_rfl) (fun n16 a w hst => ?_)
    replace hst : St M w0 145 [(18, tcloE 84 [tv (n1 5), tv (n15 12)]), (85, tv (n15 1)), (17, tv (n15 12)), (15, tv (n15 1)), (16, ti (t88).b), (1, tsl rSEdge l_), (2, ti first_), (3, ti many_)] [own rVal 22 us54 v53, box (rVal.cs v53) (n1 5), rows rI 3 p52 us54, own rI 3 [first_] (n15 1), box (rI.cs (t93).n) (n15 12)] a w := (hst.pick [1, 2, 3, 4, 5, 7, 8, 9])
    refine hK58 _ _ ?_
    try clear hK58 K58
    refine wp_seq_k (fun K59 hK59 => ?_)
    refine wp_seq_k (fun K60 hK60 => ?_)
    obtain ⟨t101, ht101, h⟩ := bind_some h
    refine wp_reg mixed [] hst (fun _ => .p rfl (op_move (.t 0 rfl)) <| .p rfl (op_move (.t 5 rfl)) <| .p rfl (op_move (.t 9 rfl)) <| .p rfl (op_sub (.t 0 rfl) .k) <| .u [1, 0, 2, 4] rfl rfl (op_callL [box (rVal.cs v53) (n1 5), own rVal 22 us54 v53, rows rI 3 p52 us54, box (rI.cs (t93).n) (n15 12)] call84 (cycle1_ok ht101) (.t 3 rfl) (.cons (lend_boxT (.head _) (.tail _ (.head _)) (.tail _ (.tail _ (.head _)))) <| .cons (lend_box (.tail _ (.tail _ (.tail _ (.head _))))) <| .nil) (.cons (.of (.t 2 rfl)) <| .cons (.of (.t 0 rfl)) <| .cons (.of .k) <| .nil) (fun _ => flat_tv) (fun _ => flatN0 (x := undef))) <| .p rfl (op_not (.t 0 rfl)) <| .nil _ _) (by kernel_rfl) (fun n17 a w hst => ?_)
    replace hst : St M w0 145 [(102, tb (!t101)), (18, tcloE 84 [tv (n1 5), tv (n15 12)]), (85, tv (n15 1)), (17, tv (n15 12)), (15, tv (n15 1)), (16, ti (t88).b), (1, tsl rSEdge l_), (2, ti first_), (3, ti many_)] [own rVal 22 us54 v53, box (rVal.cs v53) (n1 5), rows rI 3 p52 us54, own rI 3 [first_] (n15 1), box (rI.cs (t93).n) (n15 12)] a w := (hst.pick [5, 6, 7, 8, 9, 10, 11, 12, 13])
    refine hK60 _ _ ?_
    try clear hK60 K60
    refine wp_test 0 hst rfl (fun b192 => ?_) (fun b192 => ?_)
    · replace h := ite_t b192 h
      refine wp_seq_k (fun K61 hK61 => ?_)
      refine wp_reg mixed [] hst (fun _ => .p rfl (op_assign (.nilsn (R := rI))) <| .nil _ _) (by kernel_rfl) (fun n18 a w hst => ?_)
      replace hst : St M w0 145 [(8, tsn rI ([] : List Int)), (85, tv (n15 1)), (15, tv (n15 1))] [own rI 3 [first_] (n15 1)] a w := ((hst.pick [0, 3, 5]).selA [3] rfl)
      refine hK61 _ _ ?_
      try clear hK61 K61
      refine wp_ret ?_
      obtain rfl := Option.some.inj h
      exact ret_st undef [] hpl hst rfl (.tmp (.t 0 rfl) .nil) rfl rfl rfl
    · replace h := ite_f b192 h
      refine wp_skip ?_
      refine hK59 _ _ ?_
      try clear hK59 K59
      refine wp_seq_k (fun K62 hK62 => ?_)
      refine wp_label ?_
      refine hK62 _ _ ?_
      try clear hK62 K62
      refine wp_seq_k (fun K63 hK63 => ?_)
      refine wp_seq_k (fun K64 hK64 => ?_)
      refine wp_reg mixed [] hst (fun _ => .p rfl (op_move (.t 8 rfl)) <| .p rfl (op_sub (.t 0 rfl) .k) <| .p rfl (op_assign (.t 0 rfl)) <| .nil _ _) (by kernel_rfl) (fun n19 a w hst => ?_)
      replace hst : St M w0 145 [(19, ti (IntKind.i64.wrap (many_ - (2:Int)))), (18, tcloE 84 [tv (n1 5), tv (n15 12)]), (85, tv (n15 1)), (17, tv (n15 12)), (15, tv (n15 1)), (16, ti (t88).b), (1, tsl rSEdge l_), (2, ti first_)] [own rVal 22 us54 v53, box (rVal.cs v53) (n1 5), rows rI 3 p52 us54, own rI 3 [first_] (n15 1), box (rI.cs (t93).n) (n15 12)] a w := (hst.pick [2, 4, 5, 6, 7, 8, 9, 10])
      refine hK64 _ _ ?_
      try clear hK64 K64
      obtain ⟨e67, he67, h⟩ := bind_some h
      have hJp128 : ∀ (p128 : List Int) (v129 : Value) a w, p128 = e67 → St M w0 145 [(15, tv v129)] [own rI 3 p128 v129] a w → K63 a w := by
        intro p128 v129 a w he hst
        subst he
        refine hK63 _ _ ?_
        try clear hK63 K63
        refine wp_seq_k (fun K130 hK130 => ?_)
        refine wp_reg mixed [] hst (fun _ => .p rfl (op_move (.t 0 rfl)) <| .p rfl (op_assign (.t 0 rfl)) <| .nil _ _) (by kernel_rfl) (fun n28 a w hst => ?_)
        replace hst : St M w0 145 [(144, tv v129), (8, tv v129), (15, tv v129)] [own rI 3 p128 v129] a w := (hst.pick [0, 1, 2])
        refine hK130 _ _ ?_
        try clear hK130 K130
        refine wp_ret ?_
        obtain ⟨_, hne, h⟩ := bind_some h
        replace hst : St M w0 145 [(8, tsl rI p128)] [] a w := ((hst.shareO 1 rfl).pick [0])
        obtain rfl := Option.some.inj h
        exact ret_st undef [] hpl hst rfl (.tmp (.sn (.t 0 rfl) (ne_ok hne)) .nil) rfl rfl rfl
      refine wp_block ?_
      refine wp_loopK _ (fun (s65 : Int × Int × List Int × Int) a w => ∃ v66 : Value, St M w0 145 [(19, ti s65.1), (18, tcloE 84 [tv (n1 5), tv (n15 12)]), (17, tv (n15 12)), (15, tv v66), (16, ti s65.2.1), (1, tsl rSEdge l_), (2, ti first_)] [own rVal 22 us54 v53, box (rVal.cs v53) (n1 5), rows rI 3 p52 us54, own rI 3 s65.2.2.1 v66, box (rI.cs s65.2.2.2) (n15 12)] a w) _ _ he67 ⟨(n15 1), hst.pick [0, 1, 3, 4, 5, 6, 7]⟩ ?_
      clear h
      intro s65 o a w K131 hI h ho hK131
      obtain ⟨v66, hst⟩ := hI
      refine wp_seq_k (fun K132 hK132 => ?_)
      refine wp_seq_k (fun K133 hK133 => ?_)
      refine wp_reg mixed [] hst (fun _ => .p rfl (op_move (.t 0 rfl)) <| .p rfl (op_geq (.t 0 rfl) .k) <| .nil _ _) (by kernel_rfl) (fun n20 a w hst => ?_)
      replace hst : St M w0 145 [(106, tb (decide (s65.1 ≥ (0:Int)))), (19, ti s65.1), (18, tcloE 84 [tv (n1 5), tv (n15 12)]), (17, tv (n15 12)), (15, tv v66), (16, ti s65.2.1), (1, tsl rSEdge l_), (2, ti first_)] [own rVal 22 us54 v53, box (rVal.cs v53) (n1 5), rows rI 3 p52 us54, own rI 3 s65.2.2.1 v66, box (rI.cs s65.2.2.2) (n15 12)] a w := (hst.pick [1, 2, 3, 4, 5, 6, 7, 8])
      refine hK133 _ _ ?_
      try clear hK133 K133
      refine wp_test 0 hst rfl (fun b191 => ?_) (fun b191 => ?_)
      · replace h := ite_t b191 h
        refine wp_skip ?_
        refine hK132 _ _ ?_
        try clear hK132 K132
        refine wp_seq_k (fun K134 hK134 => ?_)
        obtain ⟨p135, hp135, h⟩ := bind_some h
        have hJp135 : ∀ (v163 : Value) a w, St M w0 145 [(19, ti s65.1), (18, tcloE 84 [tv (n1 5), tv (n15 12)]), (17, tv (n15 12)), (15, tv v163), (16, ti p135.1), (1, tsl rSEdge l_), (2, ti first_)] [own rVal 22 us54 v53, box (rVal.cs v53) (n1 5), rows rI 3 p52 us54, own rI 3 p135.2.1 v163, box (rI.cs p135.2.2) (n15 12)] a w → K134 a w := by
          intro v163 a w hst
          refine hK134 _ _ ?_
          try clear hK134 K134
          refine wp_reg mixed [] hst (fun _ => .p rfl (op_move (.t 0 rfl)) <| .p rfl (op_sub (.t 0 rfl) .k) <| .p rfl (op_assign (.t 0 rfl)) <| .nil _ _) (by kernel_rfl) (fun n21 a w hst => ?_)
          replace hst : St M w0 145 [(19, ti (IntKind.i64.wrap (s65.1 - (1:Int)))), (18, tcloE 84 [tv (n1 5), tv (n15 12)]), (17, tv (n15 12)), (15, tv v163), (16, ti p135.1), (1, tsl rSEdge l_), (2, ti first_)] [own rVal 22 us54 v53, box (rVal.cs v53) (n1 5), rows rI 3 p52 us54, own rI 3 p135.2.1 v163, box (rI.cs p135.2.2) (n15 12)] a w := (hst.pick [2, 3, 4, 5, 6, 7, 8])
          exact hK131 _ _ _ (Option.some.inj h).symm ⟨v163, hst.pick [0, 1, 2, 3, 4, 5, 6]⟩
        replace h := hp135
        clear hp135
        refine wp_block ?_
        refine wp_seq_k (fun K164 hK164 => ?_)
        refine wp_reg mixed [] hst (fun _ => .p rfl (op_move (.t 7 rfl)) <| .p rfl (op_add (.t 0 rfl) .k) <| .p rfl (op_assign (.t 0 rfl)) <| .nil _ _) (by kernel_rfl) (fun n22 a w hst => ?_)
        replace hst : St M w0 145 [(20, ti (IntKind.i64.wrap (first_ + (1:Int)))), (19, ti s65.1), (18, tcloE 84 [tv (n1 5), tv (n15 12)]), (17, tv (n15 12)), (15, tv v66), (16, ti s65.2.1), (1, tsl rSEdge l_), (2, ti first_)] [own rVal 22 us54 v53, box (rVal.cs v53) (n1 5), rows rI 3 p52 us54, own rI 3 s65.2.2.1 v66, box (rI.cs s65.2.2.2) (n15 12)] a w := (hst.pick [2, 4, 5, 6, 7, 8, 9, 10])
        refine hK164 _ _ ?_
        try clear hK164 K164
        obtain ⟨e167, he167, h⟩ := bind_some h
        have hJp177 : ∀ (p177 : Int × List Int × Int) (v178 : Value) a w, (.inl p177) = e167 → St M w0 145 [(19, ti s65.1), (18, tcloE 84 [tv (n1 5), tv (n15 12)]), (17, tv (n15 12)), (15, tv v178), (16, ti p177.1), (1, tsl rSEdge l_), (2, ti first_)] [own rVal 22 us54 v53, box (rVal.cs v53) (n1 5), rows rI 3 p52 us54, own rI 3 p177.2.1 v178, box (rI.cs p177.2.2) (n15 12)] a w → K134 a w := by
          intro p177 v178 a w he hst
          subst he
          simp only at h
          obtain rfl := Option.some.inj h
          exact hJp135 v178 _ _ (hst.pick [0, 1, 2, 3, 4, 5, 6])
        have hJp179 : ∀ (p179 : Int × List Int × Int) (v180 : Value) a w, (.inr p179) = e167 → St M w0 145 [(15, tv v180), (16, ti p179.1), (19, ti s65.1), (18, tcloE 84 [tv (n1 5), tv (n15 12)]), (17, tv (n15 12)), (1, tsl rSEdge l_), (2, ti first_)] [own rVal 22 us54 v53, box (rVal.cs v53) (n1 5), rows rI 3 p52 us54, own rI 3 p179.2.1 v180, box (rI.cs p179.2.2) (n15 12)] a w → K134 a w := by
          intro p179 v180 a w he hst
          subst he
          simp only at h
          obtain rfl := Option.some.inj h
          exact hJp135 v180 _ _ (hst.pick [2, 3, 4, 0, 1, 5, 6])
        refine wp_block ?_
        refine wp_loopK _ (fun (s165 : Int × Int × List Int × Int) a w => ∃ v166 : Value, St M w0 145 [(20, ti s165.1), (19, ti s65.1), (18, tcloE 84 [tv (n1 5), tv (n15 12)]), (17, tv (n15 12)), (15, tv v166), (16, ti s165.2.1), (1, tsl rSEdge l_), (2, ti first_)] [own rVal 22 us54 v53, box (rVal.cs v53) (n1 5), rows rI 3 p52 us54, own rI 3 s165.2.2.1 v166, box (rI.cs s165.2.2.2) (n15 12)] a w) _ _ he167 ⟨v66, hst.pick [0, 1, 2, 3, 4, 5, 6, 7]⟩ ?_
        clear h
        intro s165 o a w K181 hI h ho hK181
        obtain ⟨v166, hst⟩ := hI
        refine wp_seq_k (fun K182 hK182 => ?_)
        refine wp_seq_k (fun K183 hK183 => ?_)
        refine wp_reg mixed [] hst (fun _ => .p rfl (op_move (.t 0 rfl)) <| .p rfl (op_move (.t 7 rfl)) <| .p rfl (op_len Try.underlying84 (.t 0 rfl)) <| .p rfl (op_lss (.t 2 rfl) (.t 0 rfl)) <| .nil _ _) (by kernel_rfl) (fun n23 a w hst => ?_)
        replace hst : St M w0 145 [(114, tb (decide (s165.1 < (l_.length : Int)))), (20, ti s165.1), (19, ti s65.1), (18, tcloE 84 [tv (n1 5), tv (n15 12)]), (17, tv (n15 12)), (15, tv v166), (16, ti s165.2.1), (1, tsl rSEdge l_), (2, ti first_)] [own rVal 22 us54 v53, box (rVal.cs v53) (n1 5), rows rI 3 p52 us54, own rI 3 s165.2.2.1 v166, box (rI.cs s165.2.2.2) (n15 12)] a w := (hst.pick [3, 4, 5, 6, 7, 8, 9, 10, 11])
        refine hK183 _ _ ?_
        try clear hK183 K183
        refine wp_test 0 hst rfl (fun b190 => ?_) (fun b190 => ?_)
        · replace h := ite_t b190 h
          refine wp_skip ?_
          refine hK182 _ _ ?_
          try clear hK182 K182
          refine wp_seq_k (fun K184 hK184 => ?_)
          refine wp_block ?_
          refine wp_seq_k (fun K185 hK185 => ?_)
          obtain ⟨t119, ht119, h⟩ := bind_some h
          refine wp_reg mixed [v1 4 (fun v0 => box (rSEdge.cs (SEdge.mk (0:Int) (0:Int) (0:Int))) v0), v1 4 (fun v0 => box (rSEdge.cs t119) v0)] hst (fun _ => .p rfl (op_move (.t 7 rfl)) <| .p rfl (op_move (.t 2 rfl)) <| .p rfl (op_index Try.underlying84 tok103 (.t 1 rfl) (.t 0 rfl) ht119) <| .p rfl (op_load tok103 (.t 0 rfl)) <| .m [] [5] rfl rfl rfl (op_alloc (R := rSEdge) (a := (SEdge.mk (0:Int) (0:Int) (0:Int))) tok103 zok103) <| .e [] [5] [6] rfl rfl rfl rfl (op_storeB (R := rSEdge) (a := t119) tok103 (.t 0 rfl) (.t 1 rfl) (Nat.le_of_ble_eq_true rfl)) <| .nil _ _) (by kernel_rfl) (fun n25 a w hst => ?_)
          replace hst : St M w0 145 [(21, tptr (rSEdge.cs t119)), (20, ti s165.1), (19, ti s65.1), (18, tcloE 84 [tv (n1 5), tv (n15 12)]), (17, tv (n15 12)), (15, tv v166), (16, ti s165.2.1), (1, tsl rSEdge l_), (2, ti first_)] [own rVal 22 us54 v53, box (rVal.cs v53) (n1 5), rows rI 3 p52 us54, own rI 3 s165.2.2.1 v166, box (rI.cs s165.2.2.2) (n15 12)] a w := (((((hst.pick [4, 6, 7, 8, 9, 10, 11, 12, 13]).selA [5, 0, 1, 2, 3, 4] rfl).shareB 0 rfl).add 0 rfl (fun _ _ _ h => h.2)).pick [0, 3, 4, 5, 6, 7, 8, 9, 10])
          refine hK185 _ _ ?_
          try clear hK185 K185
          refine wp_seq_k (fun K187 hK187 => ?_)
          obtain ⟨t132, ht132, h⟩ := bind_some h
          refine wp_reg mixed [] hst (fun _ => .p rfl (op_field fld103_0 (.t 0 rfl)) <| .p rfl (op_loadT (u := (t119).a) tok3 (.t 0 rfl) rfl) <| .p rfl (op_move (.t 8 rfl)) <| .p rfl (op_eql (.t 1 rfl) (.t 0 rfl)) <| .p rfl (op_move (.t 0 rfl)) <| .g rfl rfl (.b 0 rfl) (fun _ => op_move (.t 8 rfl)) <| .g rfl rfl (.b 1 rfl) (fun _ => op_field fld103_1 (.t 6 rfl)) <| .g rfl rfl (.b 2 rfl) (fun hc => op_loadT (u := (t119).b) tok3 (.cond (.t 0 rfl) hc) rfl) <| .g rfl rfl (.b 3 rfl) (fun _ => op_move (.t 10 rfl)) <| .g rfl rfl (.b 4 rfl) (fun _ => op_field fld103_2 (.t 9 rfl)) <| .g rfl rfl (.b 5 rfl) (fun hc => op_loadT (u := (t119).n) tok3 (.cond (.t 0 rfl) hc) rfl) <| .gu [1, 0, 2, 4] rfl rfl rfl (.b 6 rfl) (fun hc => op_callL [box (rVal.cs v53) (n1 5), own rVal 22 us54 v53, rows rI 3 p52 us54, box (rI.cs s165.2.2.2) (n15 12)] call84 (cycle1_ok (opt_t ht132 hc)) (.cond (.t 5 rfl) hc) (.cons (lend_boxT (.head _) (.tail _ (.head _)) (.tail _ (.tail _ (.head _)))) <| .cons (lend_box (.tail _ (.tail _ (.tail _ (.head _))))) <| .nil) (.cons (.of (.cond (.t 3 rfl) hc)) <| .cons (.of (.cond (.t 2 rfl) hc)) <| .cons (.of (.cond (.t 0 rfl) hc)) <| .nil) (fun _ => flat_tv) (fun _ => flatN0 (x := undef))) <| .p rfl (op_and (.t 7 rfl) (fun hp => (.cond (.t 0 rfl) (beqT hp)))) <| .nil _ _) (by kernel_rfl) (fun n26 a w hst => ?_)
          replace hst : St M w0 145 [(133, tb (((t119).a == s165.2.1) && t132)), (21, tptr (rSEdge.cs t119)), (20, ti s165.1), (19, ti s65.1), (18, tcloE 84 [tv (n1 5), tv (n15 12)]), (17, tv (n15 12)), (15, tv v166), (16, ti s165.2.1), (1, tsl rSEdge l_), (2, ti first_)] [own rVal 22 us54 v53, box (rVal.cs v53) (n1 5), rows rI 3 p52 us54, own rI 3 s165.2.2.1 v166, box (rI.cs s165.2.2.2) (n15 12)] a w := (hst.pick [12, 13, 14, 15, 16, 17, 18, 19, 20, 21])
          refine hK187 _ _ ?_
          try clear hK187 K187
          refine wp_test 0 hst rfl (fun b189 => ?_) (fun b189 => ?_)
          · replace h := ite_t b189 h
            refine wp_seq_k (fun K188 hK188 => ?_)
            obtain ⟨u137, hu137, h⟩ := bind_some h
            refine wp_reg mixed [v1 3 (fun v0 => own rI 3 (s165.2.2.1 ++ [s165.1]) v0), v0 (box (rI.cs (IntKind.i64.wrap (s165.2.2.2 + (t119).n))) (n15 12))] hst (fun _ => .p rfl (op_move (.t 6 rfl)) <| .p rfl (op_move (.t 3 rfl)) <| .p rfl (op_buildSl (R := rI) (us := [s165.1]) Try.underlying22 tok3 (.cons (.t 0 rfl) <| .nil _) rfl (Nat.le_of_ble_eq_true rfl)) <| .e [] [3] [5] rfl rfl rfl rfl (op_append (R := rI) Try.underlying22 tok3 (Nat.le_of_ble_eq_true rfl) (.t 2 rfl) (.t 0 rfl) hu137) <| .p rfl (op_field fld103_1 (.t 5 rfl)) <| .p rfl (op_loadT (u := (t119).b) tok3 (.t 0 rfl) rfl) <| .u [4] rfl rfl (op_loadB (R := rI) (u := s165.2.2.2) tok3 (.t 11 rfl) rfl) <| .p rfl (op_field fld103_2 (.t 8 rfl)) <| .p rfl (op_loadT (u := (t119).n) tok3 (.t 0 rfl) rfl) <| .p rfl (op_add (.t 2 rfl) (.t 0 rfl)) <| .ud (f := fun v => tv v) 3 rfl [] rfl rfl (op_assign (.t 6 rfl)) <| .p rfl (op_assign (.t 5 rfl)) <| .e [] [4] [6] rfl rfl rfl rfl (op_storeB (R := rI) (a := (IntKind.i64.wrap (s165.2.2.2 + (t119).n))) tok3 (.t 17 rfl) (.t 2 rfl) (Nat.le_of_ble_eq_true rfl)) <| .nil _ _) (by kernel_rfl) (fun n27 a w hst => ?_)
            replace hst : St M w0 145 [(137, tv (n27 3)), (15, tv (n27 3)), (16, ti (t119).b), (19, ti s65.1), (18, tcloE 84 [tv (n1 5), tv (n15 12)]), (17, tv (n15 12)), (1, tsl rSEdge l_), (2, ti first_)] [own rVal 22 us54 v53, box (rVal.cs v53) (n1 5), rows rI 3 p52 us54, own rI 3 (s165.2.2.1 ++ [s165.1]) (n27 3), box (rI.cs (IntKind.i64.wrap (s165.2.2.2 + (t119).n))) (n15 12)] a w := (hst.pick [3, 10, 11, 15, 16, 17, 18, 19])
            refine hK188 _ _ ?_
            try clear hK188 K188
            refine wp_exit ?_
            exact hJp179 _ (n27 3) _ _ (ho _ (Option.some.inj h).symm) (hst.pick [1, 2, 3, 4, 5, 6, 7])
          · replace h := ite_f b189 h
            refine wp_skip ?_
            refine hK184 _ _ ?_
            try clear hK184 K184
            refine wp_reg mixed [] hst (fun _ => .p rfl (op_move (.t 2 rfl)) <| .p rfl (op_add (.t 0 rfl) .k) <| .p rfl (op_assign (.t 0 rfl)) <| .nil _ _) (by kernel_rfl) (fun n24 a w hst => ?_)
            replace hst : St M w0 145 [(20, ti (IntKind.i64.wrap (s165.1 + (1:Int)))), (19, ti s65.1), (18, tcloE 84 [tv (n1 5), tv (n15 12)]), (17, tv (n15 12)), (15, tv v166), (16, ti s165.2.1), (1, tsl rSEdge l_), (2, ti first_)] [own rVal 22 us54 v53, box (rVal.cs v53) (n1 5), rows rI 3 p52 us54, own rI 3 s165.2.2.1 v166, box (rI.cs s165.2.2.2) (n15 12)] a w := (hst.pick [2, 5, 6, 7, 8, 9, 10, 11])
            exact hK181 _ _ _ (Option.some.inj h).symm ⟨v166, hst.pick [0, 1, 2, 3, 4, 5, 6, 7]⟩
        · replace h := ite_f b190 h
          refine wp_exit ?_
          exact hJp177 _ v166 _ _ (ho _ (Option.some.inj h).symm) (hst.pick [2, 3, 4, 5, 6, 7, 8])
      · replace h := ite_f b191 h
        refine wp_exit ?_
        exact hJp128 _ v66 _ _ (ho _ (Option.some.inj h).symm) ((hst.pick [4]).selA [3] rfl)
  refine wp_block ?_
  refine wp_loopK _ (fun (s12 : Int × List (List Int)) a w => ∃ v13 : Value, ∃ us14 : List Value, St M w0 145 [(10, ti s12.1), (9, tv (n1 5)), (0, ti n_), (1, tsl rSEdge l_), (2, ti first_), (3, ti many_)] [own rVal 22 us14 v13, box (rVal.cs v13) (n1 5), rows rI 3 s12.2 us14] a w) _ _ he15 ⟨(n1 4), [(n1 3)], hst.pick [0, 3, 4, 5, 6, 7]⟩ ?_
  clear h
  intro s12 o a w K193 hI h ho hK193
  obtain ⟨v13, us14, hst⟩ := hI
  refine wp_seq_k (fun K194 hK194 => ?_)
  refine wp_seq_k (fun K195 hK195 => ?_)
  refine wp_reg mixed [] hst (fun _ => .p rfl (op_move (.t 0 rfl)) <| .p rfl (op_move (.t 6 rfl)) <| .p rfl (op_lss (.t 1 rfl) (.t 0 rfl)) <| .nil _ _) (by kernel_rfl) (fun n4 a w hst => ?_)
  replace hst : St M w0 145 [(38, tb (decide (s12.1 < many_))), (10, ti s12.1), (9, tv (n1 5)), (0, ti n_), (1, tsl rSEdge l_), (2, ti first_), (3, ti many_)] [own rVal 22 us14 v13, box (rVal.cs v13) (n1 5), rows rI 3 s12.2 us14] a w := (hst.pick [2, 3, 4, 5, 6, 7, 8])
  refine hK195 _ _ ?_
  try clear hK195 K195
  refine wp_test 0 hst rfl (fun b229 => ?_) (fun b229 => ?_)
  · replace h := ite_t b229 h
    refine wp_skip ?_
    refine hK194 _ _ ?_
    try clear hK194 K194
    refine wp_seq_k (fun K196 hK196 => ?_)
    refine wp_block ?_
    refine wp_seq_k (fun K197 hK197 => ?_)
    obtain ⟨t44, ht44, h⟩ := bind_some h
    refine wp_reg mixed [v1 3 (fun v0 => own rI 3 t44 v0)] hst (fun _ => .p rfl (op_buildSl (R := rI) (us := [(1099511627776:Int)]) Try.underlying22 tok3 (.cons .k <| .nil _) rfl (Nat.le_of_ble_eq_true rfl)) <| .p rfl (op_move (.t 4 rfl)) <| .p rfl (op_add (.t 0 rfl) .k) <| .m [] [3] rfl rfl rfl (op_callF call83 (Repeat_ok ht44) (.cons (.of (.t 2 rfl)) <| .cons (.of (.t 0 rfl)) <| .nil)) <| .ud (f := fun v => tv v) 3 rfl [] rfl rfl (op_assign (.t 0 rfl)) <| .nil _ _) (by kernel_rfl) (fun n6 a w hst => ?_)
    replace hst : St M w0 145 [(44, tv (n6 3)), (11, tv (n6 3)), (10, ti s12.1), (9, tv (n1 5)), (0, ti n_), (1, tsl rSEdge l_), (2, ti first_), (3, ti many_)] [own rVal 22 us14 v13, box (rVal.cs v13) (n1 5), rows rI 3 s12.2 us14, own rI 3 t44 (n6 3)] a w := (hst.pick [3, 4, 6, 7, 8, 9, 10, 11])
    refine hK197 _ _ ?_
    try clear hK197 K197
    refine wp_seq_k (fun K199 hK199 => ?_)
    refine wp_seq_k (fun K200 hK200 => ?_)
    obtain ⟨t48, ht48, h⟩ := bind_some h
    refine wp_reg mixed [] hst (fun _ => .p rfl (op_move (.t 5 rfl)) <| .p rfl (op_move (.t 7 rfl)) <| .p rfl (op_add (.t 0 rfl) .k) <| .p rfl (op_slice Try.underlying84 tok103 (.t 2 rfl) (.op (.t 0 rfl)) (.no _) ht48) <| .p rfl (op_len Try.underlying84 (.t 0 rfl)) <| .p rfl (op_move .k) <| .nil _ _) (by kernel_rfl) (fun n7 a w hst => ?_)
    replace hst : St M w0 145 [(48, tsl rSEdge t48), (49, ti (t48.length : Int)), (50, ti (0:Int)), (44, tv (n6 3)), (11, tv (n6 3)), (10, ti s12.1), (9, tv (n1 5)), (0, ti n_), (1, tsl rSEdge l_), (2, ti first_), (3, ti many_)] [own rVal 22 us14 v13, box (rVal.cs v13) (n1 5), rows rI 3 s12.2 us14, own rI 3 t44 (n6 3)] a w := (hst.pick [3, 4, 5, 6, 7, 8, 9, 10, 11, 12, 13])
    refine hK200 _ _ ?_
    try clear hK200 K200
    obtain ⟨e202, he202, h⟩ := bind_some h
    have hJp215 : ∀ (p215 : List Int) a w, p215 = e202 → St M w0 145 [(11, tv (n6 3)), (10, ti s12.1), (9, tv (n1 5)), (0, ti n_), (1, tsl rSEdge l_), (2, ti first_), (3, ti many_)] [own rVal 22 us14 v13, box (rVal.cs v13) (n1 5), rows rI 3 s12.2 us14, own rI 3 p215 (n6 3)] a w → K199 a w := by
      intro p215 a w he hst
      subst he
      refine hK199 _ _ ?_
      try clear hK199 K199
      obtain ⟨u83, hu83, h⟩ := bind_some h
      refine wp_reg mixed [v1 3 (fun v0 => own rVal 22 (us14 ++ [(n6 3)]) v0), v1 3 (fun v0 => box (rVal.cs v0) (n1 5))] hst (fun _ => .u [1] rfl rfl (op_loadBV tokV26 (.t 2 rfl)) <| .p rfl (op_move (.t 1 rfl)) <| .u [3] rfl rfl (op_hdr (R := rI) (e := 3) (xs := p215) Try.underlying26 tokV22 (.t 0 rfl)) <| .e [2] [0] [4] rfl rfl rfl rfl (op_appendT (R := rI) (e2 := 3) (ws := [(n6 3)]) Try.underlying26 tokV22 (Nat.le_of_ble_eq_true rfl) (.t 2 rfl) (.t 0 rfl) hu83) <| .e [4] [1] [5] rfl rfl rfl rfl (op_storeBV (R := rVal) (e := 22) tokV26 (.t 6 rfl) (.t 0 rfl)) <| .nil _ _) (by kernel_rfl) (fun n14 a w hst => ?_)
      replace hst : St M w0 145 [(81, tv (n6 3)), (83, tv (n14 3)), (11, tv (n6 3)), (10, ti s12.1), (9, tv (n1 5)), (0, ti n_), (1, tsl rSEdge l_), (2, ti first_), (3, ti many_)] [rows rI 3 (s12.2 ++ [p215]) (us14 ++ [(n6 3)]), own rVal 22 (us14 ++ [(n6 3)]) (n14 3), box (rVal.cs (n14 3)) (n1 5)] a w := (((hst.pick [1, 3, 4, 5, 6, 7, 8, 9, 10]).selA [1, 0, 2, 3] rfl).push)
      refine hK196 _ _ ?_
      try clear hK196 K196
      refine wp_reg mixed [] hst (fun _ => .p rfl (op_move (.t 3 rfl)) <| .p rfl (op_add (.t 0 rfl) .k) <| .p rfl (op_assign (.t 0 rfl)) <| .nil _ _) (by kernel_rfl) (fun n5 a w hst => ?_)
      replace hst : St M w0 145 [(10, ti (IntKind.i64.wrap (s12.1 + (1:Int)))), (83, tv (n14 3)), (9, tv (n1 5)), (0, ti n_), (1, tsl rSEdge l_), (2, ti first_), (3, ti many_)] [rows rI 3 (s12.2 ++ [p215]) (us14 ++ [(n6 3)]), own rVal 22 (us14 ++ [(n6 3)]) (n14 3), box (rVal.cs (n14 3)) (n1 5)] a w := (hst.pick [2, 4, 6, 7, 8, 9, 10])
      exact hK193 _ _ _ (Option.some.inj h).symm ⟨(n14 3), (us14 ++ [(n6 3)]), (hst.pick [0, 2, 3, 4, 5, 6]).selA [1, 2, 0] rfl⟩
    refine wp_block ?_
    refine wp_loopK _ (fun (s201 : Int × List Int) a w => St M w0 145 [(48, tsl rSEdge t48), (49, ti (t48.length : Int)), (50, ti s201.1), (11, tv (n6 3)), (10, ti s12.1), (9, tv (n1 5)), (0, ti n_), (1, tsl rSEdge l_), (2, ti first_), (3, ti many_)] [own rVal 22 us14 v13, box (rVal.cs v13) (n1 5), rows rI 3 s12.2 us14, own rI 3 s201.2 (n6 3)] a w) _ _ he202 (hst.pick [0, 1, 2, 4, 5, 6, 7, 8, 9, 10]) ?_
    clear h
    intro s201 o a w K216 hI h ho hK216
    have hst := hI
    clear hI
    refine wp_seq_k (fun K217 hK217 => ?_)
    refine wp_reg mixed [] hst (fun _ => .p rfl (op_lss (.t 2 rfl) (.t 1 rfl)) <| .nil _ _) (by kernel_rfl) (fun n8 a w hst => ?_)
    replace hst : St M w0 145 [(51, tb (decide (s201.1 < (t48.length : Int)))), (48, tsl rSEdge t48), (49, ti (t48.length : Int)), (50, ti s201.1), (11, tv (n6 3)), (10, ti s12.1), (9, tv (n1 5)), (0, ti n_), (1, tsl rSEdge l_), (2, ti first_), (3, ti many_)] [own rVal 22 us14 v13, box (rVal.cs v13) (n1 5), rows rI 3 s12.2 us14, own rI 3 s201.2 (n6 3)] a w := (hst.pick [0, 1, 2, 3, 4, 5, 6, 7, 8, 9, 10])
    refine hK217 _ _ ?_
    try clear hK217 K217
    refine wp_seq_k (fun K218 hK218 => ?_)
    refine wp_test 0 hst rfl (fun b228 => ?_) (fun b228 => ?_)
    · replace h := ite_t b228 h
      refine wp_skip ?_
      refine hK218 _ _ ?_
      try clear hK218 K218
      refine wp_seq_k (fun K219 hK219 => ?_)
      refine wp_block ?_
      refine wp_seq_k (fun K220 hK220 => ?_)
      obtain ⟨t52, ht52, h⟩ := bind_some h
      refine wp_reg mixed [v1 2 (fun v0 => box (rSEdge.cs (SEdge.mk (0:Int) (0:Int) (0:Int))) v0), v1 2 (fun v0 => box (rSEdge.cs t52) v0)] hst (fun _ => .p rfl (op_index Try.underlying84 tok103 (.t 1 rfl) (.t 3 rfl) ht52) <| .p rfl (op_load tok103 (.t 0 rfl)) <| .m [] [4] rfl rfl rfl (op_alloc (R := rSEdge) (a := (SEdge.mk (0:Int) (0:Int) (0:Int))) tok103 zok103) <| .e [] [4] [5] rfl rfl rfl rfl (op_storeB (R := rSEdge) (a := t52) tok103 (.t 0 rfl) (.t 1 rfl) (Nat.le_of_ble_eq_true rfl)) <| .nil _ _) (by kernel_rfl) (fun n9 a w hst => ?_)
      replace hst : St M w0 145 [(13, tptr (rSEdge.cs t52)), (48, tsl rSEdge t48), (49, ti (t48.length : Int)), (50, ti s201.1), (11, tv (n6 3)), (10, ti s12.1), (9, tv (n1 5)), (0, ti n_), (1, tsl rSEdge l_), (2, ti first_), (3, ti many_)] [own rVal 22 us14 v13, box (rVal.cs v13) (n1 5), rows rI 3 s12.2 us14, own rI 3 s201.2 (n6 3)] a w := (((((hst.pick [2, 4, 5, 6, 7, 8, 9, 10, 11, 12, 13]).selA [4, 0, 1, 2, 3] rfl).shareB 0 rfl).add 0 rfl (fun _ _ _ h => h.2)).pick [0, 3, 4, 5, 6, 7, 8, 9, 10, 11, 12])
      refine hK220 _ _ ?_
      try clear hK220 K220
      refine wp_seq_k (fun K222 hK222 => ?_)
      obtain ⟨r223, hr223, h⟩ := bind_some h
      obtain ⟨t61, ht61, h⟩ := bind_some h
      refine wp_reg mixed [] hst (fun _ => .u [1] rfl rfl (op_loadBV tokV26 (.t 6 rfl)) <| .p rfl (op_move (.t 6 rfl)) <| .p rfl (op_sub (.t 0 rfl) .k) <| .u [0, 2] rfl rfl (op_indexT Try.underlying26 tokV22 (.t 2 rfl) (.t 0 rfl) hr223) <| .u [0, 2] rfl rfl (op_loadT2 tokV22 (.t 0 rfl) hr223) <| .p rfl (op_field fld103_1 (.t 5 rfl)) <| .p rfl (op_loadT (u := (t52).b) tok3 (.t 0 rfl) rfl) <| .u [2] rfl rfl (op_indexRi Try.underlying22 tok3 (.t 2 rfl) (.t 0 rfl) hr223 ht61) <| .u [2] rfl rfl (op_loadR tok3 (.t 0 rfl) hr223 ht61) <| .p rfl (op_assign (.t 0 rfl)) <| .nil _ _) (by kernel_rfl) (fun n10 a w hst => ?_)
      replace hst : St M w0 145 [(54, tv v13), (14, ti t61), (13, tptr (rSEdge.cs t52)), (48, tsl rSEdge t48), (49, ti (t48.length : Int)), (50, ti s201.1), (11, tv (n6 3)), (10, ti s12.1), (9, tv (n1 5)), (0, ti n_), (1, tsl rSEdge l_), (2, ti first_), (3, ti many_)] [own rVal 22 us14 v13, box (rVal.cs v13) (n1 5), rows rI 3 s12.2 us14, own rI 3 s201.2 (n6 3)] a w := (hst.pick [0, 9, 10, 11, 12, 13, 14, 15, 16, 17, 18, 19, 20])
      refine hK222 _ _ ?_
      try clear hK222 K222
      refine wp_seq_k (fun K224 hK224 => ?_)
      refine wp_reg mixed [] hst (fun _ => .p rfl (op_move (.t 1 rfl)) <| .p rfl (op_lss (.t 0 rfl) .k) <| .nil _ _) (by kernel_rfl) (fun n11 a w hst => ?_)
      replace hst : St M w0 145 [(64, tb (decide (t61 < (1099511627776:Int)))), (54, tv v13), (14, ti t61), (13, tptr (rSEdge.cs t52)), (48, tsl rSEdge t48), (49, ti (t48.length : Int)), (50, ti s201.1), (11, tv (n6 3)), (10, ti s12.1), (9, tv (n1 5)), (0, ti n_), (1, tsl rSEdge l_), (2, ti first_), (3, ti many_)] [own rVal 22 us14 v13, box (rVal.cs v13) (n1 5), rows rI 3 s12.2 us14, own rI 3 s201.2 (n6 3)] a w := (hst.pick [1, 2, 3, 4, 5, 6, 7, 8, 9, 10, 11, 12, 13, 14])
      refine hK224 _ _ ?_
      try clear hK224 K224
      obtain ⟨p225, hp225, h⟩ := bind_some h
      have hJp225 : ∀ a w, St M w0 145 [(48, tsl rSEdge t48), (49, ti (t48.length : Int)), (50, ti s201.1), (11, tv (n6 3)), (10, ti s12.1), (9, tv (n1 5)), (0, ti n_), (1, tsl rSEdge l_), (2, ti first_), (3, ti many_)] [own rVal 22 us14 v13, box (rVal.cs v13) (n1 5), rows rI 3 s12.2 us14, own rI 3 p225 (n6 3)] a w → K219 a w := by
        intro a w hst
        refine hK219 _ _ ?_
        try clear hK219 K219
        refine wp_reg mixed [] hst (fun _ => .p rfl (op_add (.t 2 rfl) .k) <| .p rfl (op_move (.t 0 rfl)) <| .nil _ _) (by kernel_rfl) (fun n13 a w hst => ?_)
        replace hst : St M w0 145 [(50, ti (IntKind.i64.wrap (s201.1 + (1:Int)))), (48, tsl rSEdge t48), (49, ti (t48.length : Int)), (11, tv (n6 3)), (10, ti s12.1), (9, tv (n1 5)), (0, ti n_), (1, tsl rSEdge l_), (2, ti first_), (3, ti many_)] [own rVal 22 us14 v13, box (rVal.cs v13) (n1 5), rows rI 3 s12.2 us14, own rI 3 p225 (n6 3)] a w := (hst.pick [1, 2, 3, 4, 5, 6, 7, 8, 9, 10])
        exact hK216 _ _ _ (Option.some.inj h).symm (hst.pick [1, 2, 0, 3, 4, 5, 6, 7, 8, 9])
      replace h := hp225
      clear hp225
      refine wp_test 0 hst rfl (fun b227 => ?_) (fun b227 => ?_)
      · replace h := ite_t b227 h
        obtain ⟨t71, ht71, h⟩ := bind_some h
        obtain ⟨t78s, ht78s, h⟩ := bind_some h
        refine wp_reg mixed [v0 (own rI 3 t78s (n6 3))] hst (fun _ => .p rfl (op_move (.t 7 rfl)) <| .p rfl (op_field fld103_0 (.t 4 rfl)) <| .p rfl (op_loadT (u := (t52).a) tok3 (.t 0 rfl) rfl) <| .p rfl (op_move (.t 10 rfl)) <| .p rfl (op_field fld103_0 (.t 7 rfl)) <| .p rfl (op_loadT (u := (t52).a) tok3 (.t 0 rfl) rfl) <| .u [3] rfl rfl (op_indexOi Try.underlying22 tok3 (.t 2 rfl) (.t 0 rfl) ht71) <| .u [3] rfl rfl (op_loadO tok3 (.t 0 rfl) ht71) <| .p rfl (op_move (.t 10 rfl)) <| .p rfl (op_field fld103_2 (.t 12 rfl)) <| .p rfl (op_loadT (u := (t52).n) tok3 (.t 0 rfl) rfl) <| .p rfl (op_add (.t 2 rfl) (.t 0 rfl)) <| .p rfl (op_min (.t 4 rfl) (.t 0 rfl)) <| .u [3] rfl rfl (op_indexOs Try.underlying22 tok3 (.t 12 rfl) (.t 10 rfl) ht78s) <| .e [] [3] [4] rfl rfl rfl rfl (op_storeO tok3 (.t 0 rfl) (.t 1 rfl) ht78s) <| .nil _ _) (by kernel_rfl) (fun n12 a w hst => ?_)
        replace hst : St M w0 145 [(65, tv (n6 3)), (68, tv (n6 3)), (54, tv v13), (48, tsl rSEdge t48), (49, ti (t48.length : Int)), (50, ti s201.1), (11, tv (n6 3)), (10, ti s12.1), (9, tv (n1 5)), (0, ti n_), (1, tsl rSEdge l_), (2, ti first_), (3, ti many_)] [own rVal 22 us14 v13, box (rVal.cs v13) (n1 5), rows rI 3 s12.2 us14, own rI 3 t78s (n6 3)] a w := (hst.pick [0, 3, 15, 18, 19, 20, 21, 22, 23, 24, 25, 26, 27])
        obtain rfl := Option.some.inj h
        exact hJp225 _ _ (hst.pick [3, 4, 5, 6, 7, 8, 9, 10, 11, 12])
      · replace h := ite_f b227 h
        refine wp_skip ?_
        obtain rfl := Option.some.inj h
        exact hJp225 _ _ (hst.pick [4, 5, 6, 7, 8, 9, 10, 11, 12, 13])
    · replace h := ite_f b228 h
      refine wp_exit ?_
      exact hJp215 _ _ _ (ho _ (Option.some.inj h).symm) (hst.pick [4, 5, 6, 7, 8, 9, 10])
  · replace h := ite_f b229 h
    refine wp_exit ?_
    exact hJp52 _ v13 us14 _ _ (ho _ (Option.some.inj h).symm) (hst.pick [2, 4, 5, 6])

/- diorama/bounds.Cycle -/
noncomputable def fCycle (n_ : Int) (l_ : (List SDiff)) : Option ((List Int) × Int) := (fedges n_ l_).bind fun t14 => (if (t14.2 != (0:Int)) = true then (some (([] : List Int), t14.2)) else (tailrec (fun (s8 : Int) => ((if (decide (s8 ≤ (IntKind.i64.wrap (n_ + (1:Int))))) = true then (tailrec (fun (s46 : Int) => ((if (decide (s46 < (t14.1.length : Int))) = true then (fcycle n_ t14.1 s46 s8).bind fun t35 => (if (!t35.isEmpty) = true then (some (.inr (.inr (t35, (0:Int))))) else (some (.inl (IntKind.i64.wrap (s46 + (1:Int)))))) else (some (.inr (.inl ())))) : Option ((Int) ⊕ ((Unit) ⊕ ((List Int) × Int))))) (0:Int)).bind fun (e47 : (Unit) ⊕ ((List Int) × Int)) => (match e47 with | .inl p57 => (some (.inl (IntKind.i64.wrap (s8 + (1:Int))))) | .inr p58 => (some (.inr (.inr (p58.1, p58.2))))) else (some (.inr (.inl ())))) : Option ((Int) ⊕ ((Unit) ⊕ ((List Int) × Int))))) (2:Int)).bind fun (e9 : (Unit) ⊕ ((List Int) × Int)) => (match e9 with | .inl p38 => (some (([] : List Int), (6:Int))) | .inr p39 => (some (p39.1, p39.2))))
set_option maxRecDepth 100000 in
set_option maxHeartbeats 4000000 in
theorem Cycle_ok {n_ : Int} {l_ : (List SDiff)} {r : (List Int) × Int} (h : fCycle n_ l_ = some r) : FnOk Try.prog 34 [ti n_, tsl rSDiff l_] [] (fun _ => []) (fun _ => ttup [tsl rI r.1, ti r.2]) := by
  unfold fCycle at h
  refine FnOk.enter Try.func34 rfl Try.ntmps34 (Nat.le_of_ble_eq_true rfl) (fun M0 M w0 a hpl hst => ?_)
  replace hst : St M w0 40 [(0, ti n_), (1, tsl rSDiff l_)] [] a w0 := hst
  refine wp_seq_k (fun K1 hK1 => ?_)
  refine wp_reg mixed [] hst (fun _ => .p rfl (op_assign (.nilsl (R := rI))) <| .p rfl (op_assign .k) <| .nil _ _) (by kernel_rfl) (fun n0 a w hst => ?_)
  replace hst : St M w0 40 [(0, ti n_), (1, tsl rSDiff l_)] [] a w := (hst.pick [2, 3])
  refine hK1 _ _ ?_
  try clear hK1 K1
  refine wp_seq_k (fun K2 hK2 => ?_)
  obtain ⟨t14, ht14, h⟩ := bind_some h
  refine wp_reg mixed [] hst (fun _ => .p rfl (op_move (.t 0 rfl)) <| .p rfl (op_move (.t 2 rfl)) <| .p rfl (op_callF call60 ((edges_ok ht14).ro ro_tup0) (.cons (.of (.t 1 rfl)) <| .cons (.of (.t 0 rfl)) <| .nil)) <| .p rfl (op_move (.t 0 rfl)) <| .p rfl (op_extract (.t 0 rfl) rfl) <| .p rfl (op_extract (.t 1 rfl) rfl) <| .p rfl (op_assign (.t 1 rfl)) <| .p rfl (op_assign (.t 1 rfl)) <| .nil _ _) (by kernel_rfl) (fun n1 a w hst => ?_)
  replace hst : St M w0 40 [(6, tsl rSEdge t14.1), (7, ti t14.2), (0, ti n_)] [] a w := (hst.pick [6, 7, 8])
  refine hK2 _ _ ?_
  try clear hK2 K2
  refine wp_seq_k (fun K3 hK3 => ?_)
  refine wp_seq_k (fun K4 hK4 => ?_)
  refine wp_reg mixed [] hst (fun _ => .p rfl (op_move (.t 1 rfl)) <| .p rfl (op_neq (.t 0 rfl) .k) <| .nil _ _) (by kernel_rfl) (fun n2 a w hst => ?_)
  replace hst : St M w0 40 [(18, tb (t14.2 != (0:Int))), (6, tsl rSEdge t14.1), (7, ti t14.2), (0, ti n_)] [] a w := (hst.pick [1, 2, 3, 4])
  refine hK4 _ _ ?_
  try clear hK4 K4
  refine wp_test 0 hst rfl (fun b70 => ?_) (fun b70 => ?_)
  · replace h := ite_t b70 h
    refine wp_seq_k (fun K5 hK5 => ?_)
    refine wp_reg mixed [] hst (fun _ => .p rfl (op_move (.t 2 rfl)) <| .p rfl (op_assign (.nilsl (R := rI))) <| .p rfl (op_assign (.t 1 rfl)) <| .nil _ _) (by kernel_rfl) (fun n3 a w hst => ?_)
    replace hst : St M w0 40 [(4, tsl rI ([] : List Int)), (5, ti t14.2)] [] a w := (hst.pick [1, 2])
    refine hK5 _ _ ?_
    try clear hK5 K5
    refine wp_ret ?_
    obtain rfl := Option.some.inj h
    exact ret_st undef [] hpl hst rfl (.tmp (.t 0 rfl) (.tmp (.t 1 rfl) .nil)) rfl rfl rfl
  · replace h := ite_f b70 h
    refine wp_skip ?_
    refine hK3 _ _ ?_
    try clear hK3 K3
    refine wp_seq_k (fun K6 hK6 => ?_)
    refine wp_seq_k (fun K7 hK7 => ?_)
    refine wp_reg mixed [] hst (fun _ => .p rfl (op_assign .k) <| .nil _ _) (by kernel_rfl) (fun n4 a w hst => ?_)
    replace hst : St M w0 40 [(8, ti (2:Int)), (6, tsl rSEdge t14.1), (0, ti n_)] [] a w := (hst.pick [0, 2, 4])
    refine hK7 _ _ ?_
    try clear hK7 K7
    obtain ⟨e9, he9, h⟩ := bind_some h
    have hJp38 : ∀ (p38 : Unit) a w, (.inl p38) = e9 → St M w0 40 [] [] a w → K6 a w := by
      intro p38 a w he hst
      subst he
      simp only at h
      refine hK6 _ _ ?_
      try clear hK6 K6
      refine wp_seq_k (fun K40 hK40 => ?_)
      refine wp_reg mixed [] hst (fun _ => .p rfl (op_assign (.nilsl (R := rI))) <| .p rfl (op_assign .k) <| .nil _ _) (by kernel_rfl) (fun n14 a w hst => ?_)
      replace hst : St M w0 40 [(4, tsl rI ([] : List Int)), (5, ti (6:Int))] [] a w := (hst.pick [0, 1])
      refine hK40 _ _ ?_
      try clear hK40 K40
      refine wp_ret ?_
      obtain rfl := Option.some.inj h
      exact ret_st undef [] hpl hst rfl (.tmp (.t 0 rfl) (.tmp (.t 1 rfl) .nil)) rfl rfl rfl
    have hJp39 : ∀ (p39 : (List Int) × Int) a w, (.inr p39) = e9 → St M w0 40 [(4, tsn rI p39.1), (5, ti p39.2)] [] a w → Ret Try.prog Try.f34 M0 [] w0 (fun _ => []) (fun _ => ttup [tsl rI r.1, ti r.2]) .ret a w := by
      intro p39 a w he hst
      subst he
      simp only at h
      obtain rfl := Option.some.inj h
      exact ret_st undef [] hpl hst rfl (.tmp (.left (.t 0 rfl)) (.tmp (.t 1 rfl) .nil)) rfl rfl rfl
    refine wp_block ?_
    refine wp_loopK _ (fun (s8 : Int) a w => St M w0 40 [(8, ti s8), (6, tsl rSEdge t14.1), (0, ti n_)] [] a w) _ _ he9 (hst.pick [0, 1, 2]) ?_
    clear h
    intro s8 o a w K41 hI h ho hK41
    have hst := hI
    clear hI
    refine wp_seq_k (fun K42 hK42 => ?_)
    refine wp_seq_k (fun K43 hK43 => ?_)
    refine wp_reg mixed [] hst (fun _ => .p rfl (op_move (.t 0 rfl)) <| .p rfl (op_move (.t 3 rfl)) <| .p rfl (op_add (.t 0 rfl) .k) <| .p rfl (op_leq (.t 2 rfl) (.t 0 rfl)) <| .nil _ _) (by kernel_rfl) (fun n5 a w hst => ?_)
    replace hst : St M w0 40 [(23, tb (decide (s8 ≤ (IntKind.i64.wrap (n_ + (1:Int)))))), (8, ti s8), (6, tsl rSEdge t14.1), (0, ti n_)] [] a w := (hst.pick [3, 4, 5, 6])
    refine hK43 _ _ ?_
    try clear hK43 K43
    refine wp_test 0 hst rfl (fun b69 => ?_) (fun b69 => ?_)
    · replace h := ite_t b69 h
      refine wp_skip ?_
      refine hK42 _ _ ?_
      try clear hK42 K42
      refine wp_seq_k (fun K44 hK44 => ?_)
      refine wp_block ?_
      refine wp_seq_k (fun K45 hK45 => ?_)
      refine wp_reg mixed [] hst (fun _ => .p rfl (op_move (.t 2 rfl)) <| .p rfl (op_len Try.underlying84 (.t 0 rfl)) <| .p rfl (op_move .k) <| .nil _ _) (by kernel_rfl) (fun n7 a w hst => ?_)
      replace hst : St M w0 40 [(27, ti (t14.1.length : Int)), (28, ti (0:Int)), (8, ti s8), (6, tsl rSEdge t14.1), (0, ti n_)] [] a w := (hst.pick [1, 2, 4, 5, 6])
      refine hK45 _ _ ?_
      try clear hK45 K45
      obtain ⟨e47, he47, h⟩ := bind_some h
      have hJp57 : ∀ (p57 : Unit) a w, (.inl p57) = e47 → St M w0 40 [(8, ti s8), (6, tsl rSEdge t14.1), (0, ti n_)] [] a w → K44 a w := by
        intro p57 a w he hst
        subst he
        simp only at h
        refine hK44 _ _ ?_
        try clear hK44 K44
        refine wp_reg mixed [] hst (fun _ => .p rfl (op_move (.t 0 rfl)) <| .p rfl (op_add (.t 0 rfl) .k) <| .p rfl (op_assign (.t 0 rfl)) <| .nil _ _) (by kernel_rfl) (fun n6 a w hst => ?_)
        replace hst : St M w0 40 [(8, ti (IntKind.i64.wrap (s8 + (1:Int)))), (6, tsl rSEdge t14.1), (0, ti n_)] [] a w := (hst.pick [2, 3, 4])
        exact hK41 _ _ _ (Option.some.inj h).symm (hst.pick [0, 1, 2])
      have hJp58 : ∀ (p58 : (List Int) × Int) a w, (.inr p58) = e47 → St M w0 40 [(4, tsn rI p58.1), (5, ti p58.2)] [] a w → Ret Try.prog Try.f34 M0 [] w0 (fun _ => []) (fun _ => ttup [tsl rI r.1, ti r.2]) .ret a w := by
        intro p58 a w he hst
        subst he
        simp only at h
        exact hJp39 _ _ _ (ho _ (Option.some.inj h).symm) (hst.pick [0, 1])
      refine wp_block ?_
      refine wp_loopK _ (fun (s46 : Int) a w => St M w0 40 [(27, ti (t14.1.length : Int)), (28, ti s46), (8, ti s8), (6, tsl rSEdge t14.1), (0, ti n_)] [] a w) _ _ he47 (hst.pick [0, 1, 2, 3, 4]) ?_
      clear h
      intro s46 o a w K59 hI h ho hK59
      have hst := hI
      clear hI
      refine wp_seq_k (fun K60 hK60 => ?_)
      refine wp_reg mixed [] hst (fun _ => .p rfl (op_lss (.t 1 rfl) (.t 0 rfl)) <| .nil _ _) (by kernel_rfl) (fun n8 a w hst => ?_)
      replace hst : St M w0 40 [(29, tb (decide (s46 < (t14.1.length : Int)))), (27, ti (t14.1.length : Int)), (28, ti s46), (8, ti s8), (6, tsl rSEdge t14.1), (0, ti n_)] [] a w := (hst.pick [0, 1, 2, 3, 4, 5])
      refine hK60 _ _ ?_
      try clear hK60 K60
      refine wp_seq_k (fun K61 hK61 => ?_)
      refine wp_test 0 hst rfl (fun b68 => ?_) (fun b68 => ?_)
      · replace h := ite_t b68 h
        refine wp_skip ?_
        refine hK61 _ _ ?_
        try clear hK61 K61
        refine wp_seq_k (fun K62 hK62 => ?_)
        refine wp_block ?_
        refine wp_seq_k (fun K63 hK63 => ?_)
        refine wp_reg mixed [] hst (fun _ => .p rfl (op_move (.t 2 rfl)) <| .p rfl (op_assign (.t 0 rfl)) <| .nil _ _) (by kernel_rfl) (fun n9 a w hst => ?_)
        replace hst : St M w0 40 [(9, ti s46), (27, ti (t14.1.length : Int)), (28, ti s46), (8, ti s8), (6, tsl rSEdge t14.1), (0, ti n_)] [] a w := (hst.pick [1, 3, 4, 5, 6, 7])
        refine hK63 _ _ ?_
        try clear hK63 K63
        refine wp_seq_k (fun K64 hK64 => ?_)
        obtain ⟨t35, ht35, h⟩ := bind_some h
        refine wp_reg mixed [] hst (fun _ => .p rfl (op_move (.t 5 rfl)) <| .p rfl (op_move (.t 5 rfl)) <| .p rfl (op_move (.t 2 rfl)) <| .p rfl (op_move (.t 6 rfl)) <| .p rfl (op_callF call64 (cycle_ok ht35) (.cons (.of (.t 3 rfl)) <| .cons (.of (.t 2 rfl)) <| .cons (.of (.t 1 rfl)) <| .cons (.of (.t 0 rfl)) <| .nil)) <| .p rfl (op_assign (.t 0 rfl)) <| .nil _ _) (by kernel_rfl) (fun n10 a w hst => ?_)
        replace hst : St M w0 40 [(10, tsn rI t35), (27, ti (t14.1.length : Int)), (28, ti s46), (8, ti s8), (6, tsl rSEdge t14.1), (0, ti n_)] [] a w := (hst.pick [5, 7, 8, 9, 10, 11])
        refine hK64 _ _ ?_
        try clear hK64 K64
        refine wp_seq_k (fun K65 hK65 => ?_)
        refine wp_reg mixed [] hst (fun _ => .p rfl (op_move (.t 0 rfl)) <| .p rfl (op_neNilX Try.underlying22 (.t 0 rfl)) <| .nil _ _) (by kernel_rfl) (fun n11 a w hst => ?_)
        replace hst : St M w0 40 [(37, tb (!t35.isEmpty)), (10, tsn rI t35), (27, ti (t14.1.length : Int)), (28, ti s46), (8, ti s8), (6, tsl rSEdge t14.1), (0, ti n_)] [] a w := (hst.pick [1, 2, 3, 4, 5, 6, 7])
        refine hK65 _ _ ?_
        try clear hK65 K65
        refine wp_test 0 hst rfl (fun b67 => ?_) (fun b67 => ?_)
        · replace h := ite_t b67 h
          refine wp_seq_k (fun K66 hK66 => ?_)
          refine wp_reg mixed [] hst (fun _ => .p rfl (op_move (.t 1 rfl)) <| .p rfl (op_assign (.t 0 rfl)) <| .p rfl (op_assign .k) <| .nil _ _) (by kernel_rfl) (fun n12 a w hst => ?_)
          replace hst : St M w0 40 [(4, tsn rI t35), (5, ti (0:Int))] [] a w := (hst.pick [1, 2])
          refine hK66 _ _ ?_
          try clear hK66 K66
          refine wp_ret ?_
          exact hJp58 _ _ _ (ho _ (Option.some.inj h).symm) (hst.pick [0, 1])
        · replace h := ite_f b67 h
          refine wp_skip ?_
          refine hK62 _ _ ?_
          try clear hK62 K62
          refine wp_reg mixed [] hst (fun _ => .p rfl (op_add (.t 3 rfl) .k) <| .p rfl (op_move (.t 0 rfl)) <| .nil _ _) (by kernel_rfl) (fun n13 a w hst => ?_)
          replace hst : St M w0 40 [(28, ti (IntKind.i64.wrap (s46 + (1:Int)))), (27, ti (t14.1.length : Int)), (8, ti s8), (6, tsl rSEdge t14.1), (0, ti n_)] [] a w := (hst.pick [1, 4, 5, 6, 7])
          exact hK59 _ _ _ (Option.some.inj h).symm (hst.pick [1, 0, 2, 3, 4])
      · replace h := ite_f b68 h
        refine wp_exit ?_
        exact hJp57 _ _ _ (ho _ (Option.some.inj h).symm) (hst.pick [3, 4, 5])
    · replace h := ite_f b69 h
      refine wp_exit ?_
      exact hJp38 _ _ _ (ho _ (Option.some.inj h).symm) (hst.pick [])

/- diorama/dioramaref14.back -/
noncomputable def fback (n_ : Int) (l_ : (List SDiff)) (from_ : Int) (to_ : Int) (most_ : Int) : Option ((List (List Int))) := (mk (IntKind.i64.wrap (most_ + (1:Int))) ([] : (List Int))).bind fun t19 => (tailrec (fun (s7 : Int × List (List Int)) => ((if (decide (s7.1 ≤ most_)) = true then ((mk (IntKind.i64.wrap (n_ + (1:Int))) (0:Int)).bind fun t29 => (setAt s7.2 s7.1 t29).bind fun w30s => (tailrec (fun (s224 : Int × List (List Int)) => ((if (decide (s224.1 ≤ n_)) = true then (idx s224.2 s7.1).bind fun r282 => (setAt r282 s224.1 (1099511627776:Int)).bind fun t41s => (setAt s224.2 s7.1 t41s).bind fun m283 => (some (.inl ((IntKind.i64.wrap (s224.1 + (1:Int))), m283))) else (some (.inr s224.2))) : Option ((Int × List (List Int)) ⊕ ((List (List Int)))))) ((0:Int), w30s)).bind fun (p232 : (List (List Int))) => (if (s7.1 == (0:Int)) = true then (idx p232 (0:Int)).bind fun r236 => (setAt r236 to_ (0:Int)).bind fun t48s => (setAt p232 (0:Int) t48s).bind fun m237 => (some m237) else (tailrec (fun (s239 : Int × List (List Int)) => ((if (decide (s239.1 < (l_.length : Int))) = true then (idx l_ s239.1).bind fun t60 => (frow n_ (t60).A).bind fun t63 => (idx l_ s239.1).bind fun t67 => (frow n_ (t67).B).bind fun t70 => (idx s239.2 (IntKind.i64.wrap (s7.1 - (1:Int)))).bind fun r266 => (idx r266 t70).bind fun t77 => ((if (decide (t77 < (1099511627776:Int))) = true then (idx s239.2 s7.1).bind fun r272 => (idx r272 t63).bind fun t90 => (idx l_ s239.1).bind fun t94 => (idx s239.2 (IntKind.i64.wrap (s7.1 - (1:Int)))).bind fun r273 => (idx r273 t70).bind fun t103 => (setAt r272 t63 (imin t90 (IntKind.i64.wrap ((t94).N + t103)))).bind fun t107s => (setAt s239.2 s7.1 t107s).bind fun m274 => (some m274) else (some s239.2))).bind fun (p267 : List (List Int)) => (some (.inl ((IntKind.i64.wrap (s239.1 + (1:Int))), p267))) else (some (.inr s239.2))) : Option ((Int × List (List Int)) ⊕ ((List (List Int)))))) ((IntKind.i64.wrap (from_ + (1:Int))), p232)).bind fun (p258 : (List (List Int))) => (some p258))).bind fun (p153 : List (List Int)) => (some (.inl ((IntKind.i64.wrap (s7.1 + (1:Int))), p153))) else (some (.inr s7.2))) : Option ((Int × List (List Int)) ⊕ ((List (List Int)))))) ((0:Int), t19)).bind fun (p146 : (List (List Int))) => (some p146)
set_option maxRecDepth 100000 in
set_option maxHeartbeats 4000000 in
theorem back_ok {n_ : Int} {l_ : (List SDiff)} {from_ : Int} {to_ : Int} {most_ : Int} {r : (List (List Int))} (h : fback n_ l_ from_ to_ most_ = some r) : FnOk Try.prog 65 [ti n_, tsl rSDiff l_, ti from_, ti to_, ti most_] [] (fun v => [own rVal 22 (tabU v) (tabV v), rows rI 3 r (tabU v)]) (fun v => tv (tabV v)) := by
  unfold fback at h
  refine FnOk.enter Try.func65 rfl Try.ntmps65 (Nat.le_of_ble_eq_true rfl) (fun M0 M w0 a hpl hst => ?_)
  replace hst : St M w0 109 [(0, ti n_), (1, tsl rSDiff l_), (2, ti from_), (3, ti to_), (4, ti most_)] [] a w0 := hst
  refine wp_seq_k (fun K1 hK1 => ?_)
  refine wp_reg mixed [] hst (fun _ => .p rfl (op_assign .k) <| .nil _ _) (by kernel_rfl) (fun n0 a w hst => ?_)
  replace hst : St M w0 109 [(0, ti n_), (1, tsl rSDiff l_), (2, ti from_), (3, ti to_), (4, ti most_)] [] a w := (hst.pick [1, 2, 3, 4, 5])
  refine hK1 _ _ ?_
  try clear hK1 K1
  refine wp_seq_k (fun K2 hK2 => ?_)
  obtain ⟨t19, ht19, h⟩ := bind_some h
  refine wp_reg mixed [v1 2 (fun v0 => own rVal 22 (List.replicate ((IntKind.i64.wrap (most_ + (1:Int)))).toNat nilV) v0)] hst (fun _ => .p rfl (op_move (.t 4 rfl)) <| .p rfl (op_add (.t 0 rfl) .k) <| .m [] [0] rfl rfl rfl (op_makeT (α := Int) Try.underlying26 tokV22 (Nat.le_of_ble_eq_true rfl) (.t 0 rfl) (.t 0 rfl) ht19) <| .ud (f := fun v => tv v) 2 rfl [] rfl rfl (op_assign (.t 0 rfl)) <| .nil _ _) (by kernel_rfl) (fun n1 a w hst => ?_)
  replace hst : St M w0 109 [(19, tv (n1 2)), (11, tv (n1 2)), (0, ti n_), (1, tsl rSDiff l_), (2, ti from_), (3, ti to_), (4, ti most_)] [rows rI 3 t19 (List.replicate ((IntKind.i64.wrap (most_ + (1:Int)))).toNat nilV), own rVal 22 (List.replicate ((IntKind.i64.wrap (most_ + (1:Int)))).toNat nilV) (n1 2)] a w := ((hst.pick [2, 3, 4, 5, 6, 7, 8]).rowsM (rI) 3 ht19)
  refine hK2 _ _ ?_
  try clear hK2 K2
  refine wp_seq_k (fun K5 hK5 => ?_)
  refine wp_seq_k (fun K6 hK6 => ?_)
  refine wp_reg mixed [] hst (fun _ => .p rfl (op_assign .k) <| .nil _ _) (by kernel_rfl) (fun n2 a w hst => ?_)
  replace hst : St M w0 109 [(12, ti (0:Int)), (19, tv (n1 2)), (11, tv (n1 2)), (0, ti n_), (1, tsl rSDiff l_), (2, ti from_), (3, ti to_), (4, ti most_)] [rows rI 3 t19 (List.replicate ((IntKind.i64.wrap (most_ + (1:Int)))).toNat nilV), own rVal 22 (List.replicate ((IntKind.i64.wrap (most_ + (1:Int)))).toNat nilV) (n1 2)] a w := (hst.pick [0, 1, 2, 3, 4, 5, 6, 7])
  refine hK6 _ _ ?_
  try clear hK6 K6
  obtain ⟨e9, he9, h⟩ := bind_some h
  have hJp146 : ∀ (p146 : List (List Int)) (us147 : List Value) a w, p146 = e9 → St M w0 109 [(11, tv (n1 2))] [rows rI 3 p146 us147, own rVal 22 us147 (n1 2)] a w → K5 a w := by
    intro p146 us147 a w he hst
    subst he
    refine hK5 _ _ ?_
    try clear hK5 K5
    refine wp_seq_k (fun K148 hK148 => ?_)
    refine wp_reg mixed [] hst (fun _ => .p rfl (op_move (.t 0 rfl)) <| .p rfl (op_assign (.t 0 rfl)) <| .nil _ _) (by kernel_rfl) (fun n19 a w hst => ?_)
    replace hst : St M w0 109 [(108, tv (n1 2)), (10, tv (n1 2)), (11, tv (n1 2))] [rows rI 3 p146 us147, own rVal 22 us147 (n1 2)] a w := (hst.pick [0, 1, 2])
    refine hK148 _ _ ?_
    try clear hK148 K148
    refine wp_ret ?_
    obtain rfl := Option.some.inj h
    exact ret_st (tabX (n1 2) us147) [1, 0] hpl hst rfl (.tmp (.t 1 rfl) .nil) rfl rfl rfl
  refine wp_block ?_
  refine wp_loopK _ (fun (s7 : Int × List (List Int)) a w => ∃ us8 : List Value, St M w0 109 [(12, ti s7.1), (11, tv (n1 2)), (0, ti n_), (1, tsl rSDiff l_), (2, ti from_), (3, ti to_), (4, ti most_)] [rows rI 3 s7.2 us8, own rVal 22 us8 (n1 2)] a w) _ _ he9 ⟨(List.replicate ((IntKind.i64.wrap (most_ + (1:Int)))).toNat nilV), hst.pick [0, 2, 3, 4, 5, 6, 7]⟩ ?_
  clear h
  intro s7 o a w K149 hI h ho hK149
  obtain ⟨us8, hst⟩ := hI
  refine wp_seq_k (fun K150 hK150 => ?_)
  refine wp_seq_k (fun K151 hK151 => ?_)
  refine wp_reg mixed [] hst (fun _ => .p rfl (op_move (.t 0 rfl)) <| .p rfl (op_move (.t 7 rfl)) <| .p rfl (op_leq (.t 1 rfl) (.t 0 rfl)) <| .nil _ _) (by kernel_rfl) (fun n3 a w hst => ?_)
  replace hst : St M w0 109 [(22, tb (decide (s7.1 ≤ most_))), (12, ti s7.1), (11, tv (n1 2)), (0, ti n_), (1, tsl rSDiff l_), (2, ti from_), (3, ti to_), (4, ti most_)] [rows rI 3 s7.2 us8, own rVal 22 us8 (n1 2)] a w := (hst.pick [2, 3, 4, 5, 6, 7, 8, 9])
  refine hK151 _ _ ?_
  try clear hK151 K151
  refine wp_test 0 hst rfl (fun b285 => ?_) (fun b285 => ?_)
  · replace h := ite_t b285 h
    refine wp_skip ?_
    refine hK150 _ _ ?_
    try clear hK150 K150
    refine wp_seq_k (fun K152 hK152 => ?_)
    obtain ⟨p153, hp153, h⟩ := bind_some h
    have hJp153 : ∀ (us219 : List Value) a w, St M w0 109 [(12, ti s7.1), (11, tv (n1 2)), (0, ti n_), (1, tsl rSDiff l_), (2, ti from_), (3, ti to_), (4, ti most_)] [own rVal 22 us219 (n1 2), rows rI 3 p153 us219] a w → K152 a w := by
      intro us219 a w hst
      refine hK152 _ _ ?_
      try clear hK152 K152
      refine wp_reg mixed [] hst (fun _ => .p rfl (op_move (.t 0 rfl)) <| .p rfl (op_add (.t 0 rfl) .k) <| .p rfl (op_assign (.t 0 rfl)) <| .nil _ _) (by kernel_rfl) (fun n4 a w hst => ?_)
      replace hst : St M w0 109 [(12, ti (IntKind.i64.wrap (s7.1 + (1:Int)))), (11, tv (n1 2)), (0, ti n_), (1, tsl rSDiff l_), (2, ti from_), (3, ti to_), (4, ti most_)] [own rVal 22 us219 (n1 2), rows rI 3 p153 us219] a w := (hst.pick [2, 3, 4, 5, 6, 7, 8])
      exact hK149 _ _ _ (Option.some.inj h).symm ⟨us219, (hst.pick [0, 1, 2, 3, 4, 5, 6]).selA [1, 0] rfl⟩
    replace h := hp153
    clear hp153
    refine wp_block ?_
    refine wp_seq_k (fun K220 hK220 => ?_)
    obtain ⟨t29, ht29, h⟩ := bind_some h
    obtain ⟨w30s, hw30s, h⟩ := bind_some h
    refine wp_reg mixed [v1 4 (fun v0 => own rI 3 t29 v0), v1 4 (fun v0 => own rVal 22 (us8.set (s7.1).toNat v0) (n1 2))] hst (fun _ => .p rfl (op_move (.t 2 rfl)) <| .p rfl (op_move (.t 2 rfl)) <| .p rfl (op_move (.t 5 rfl)) <| .p rfl (op_add (.t 0 rfl) .k) <| .m [] [2] rfl rfl rfl (op_makeO (R := rI) Try.underlying22 tok3 zok3 (Nat.le_of_ble_eq_true rfl) (.t 0 rfl) (.t 0 rfl) ht29) <| .u [1, 0] rfl rfl (op_indexTs Try.underlying26 tokV22 (.t 4 rfl) (.t 3 rfl) hw30s) <| .e [0, 2] [1] [3] rfl rfl rfl rfl (op_putT (e1 := 22) (e2 := 3) tokV22 (.t 0 rfl) (.t 1 rfl) hw30s) <| .nil _ _) (by kernel_rfl) (fun n5 a w hst => ?_)
    replace hst : St M w0 109 [(25, tv (n1 2)), (29, tv (n5 4)), (12, ti s7.1), (11, tv (n1 2)), (0, ti n_), (1, tsl rSDiff l_), (2, ti from_), (3, ti to_), (4, ti most_)] [rows rI 3 w30s (us8.set (s7.1).toNat (n5 4)), own rVal 22 (us8.set (s7.1).toNat (n5 4)) (n1 2)] a w := (((hst.pick [0, 4, 7, 8, 9, 10, 11, 12, 13]).selA [1, 0, 2] rfl).put (s7.1) hw30s)
    refine hK220 _ _ ?_
    try clear hK220 K220
    refine wp_seq_k (fun K222 hK222 => ?_)
    refine wp_seq_k (fun K223 hK223 => ?_)
    refine wp_reg mixed [] hst (fun _ => .p rfl (op_assign .k) <| .nil _ _) (by kernel_rfl) (fun n6 a w hst => ?_)
    replace hst : St M w0 109 [(13, ti (0:Int)), (25, tv (n1 2)), (12, ti s7.1), (11, tv (n1 2)), (0, ti n_), (1, tsl rSDiff l_), (2, ti from_), (3, ti to_), (4, ti most_)] [rows rI 3 w30s (us8.set (s7.1).toNat (n5 4)), own rVal 22 (us8.set (s7.1).toNat (n5 4)) (n1 2)] a w := (hst.pick [0, 1, 3, 4, 5, 6, 7, 8, 9])
    refine hK223 _ _ ?_
    try clear hK223 K223
    obtain ⟨e225, he225, h⟩ := bind_some h
    have hJp232 : ∀ (p232 : List (List Int)) a w, p232 = e225 → St M w0 109 [(12, ti s7.1), (11, tv (n1 2)), (0, ti n_), (1, tsl rSDiff l_), (2, ti from_), (3, ti to_), (4, ti most_)] [rows rI 3 p232 (us8.set (s7.1).toNat (n5 4)), own rVal 22 (us8.set (s7.1).toNat (n5 4)) (n1 2)] a w → K222 a w := by
      intro p232 a w he hst
      subst he
      refine hK222 _ _ ?_
      try clear hK222 K222
      refine wp_seq_k (fun K233 hK233 => ?_)
      refine wp_seq_k (fun K234 hK234 => ?_)
      refine wp_reg mixed [] hst (fun _ => .p rfl (op_move (.t 0 rfl)) <| .p rfl (op_eql (.t 0 rfl) .k) <| .nil _ _) (by kernel_rfl) (fun n10 a w hst => ?_)
      replace hst : St M w0 109 [(43, tb (s7.1 == (0:Int))), (12, ti s7.1), (11, tv (n1 2)), (0, ti n_), (1, tsl rSDiff l_), (2, ti from_), (3, ti to_), (4, ti most_)] [rows rI 3 p232 (us8.set (s7.1).toNat (n5 4)), own rVal 22 (us8.set (s7.1).toNat (n5 4)) (n1 2)] a w := (hst.pick [1, 2, 3, 4, 5, 6, 7, 8])
      refine hK234 _ _ ?_
      try clear hK234 K234
      refine wp_test 0 hst rfl (fun b277 => ?_) (fun b277 => ?_)
      · replace h := ite_t b277 h
        refine wp_seq_k (fun K235 hK235 => ?_)
        obtain ⟨r236, hr236, h⟩ := bind_some h
        obtain ⟨t48s, ht48s, h⟩ := bind_some h
        obtain ⟨m237, hm237, h⟩ := bind_some h
        refine wp_reg mixed [v0 (rows rI 3 m237 (us8.set (s7.1).toNat (n5 4)))] hst (fun _ => .p rfl (op_move (.t 2 rfl)) <| .u [1, 0] rfl rfl (op_indexT Try.underlying26 tokV22 (.t 0 rfl) .k hr236) <| .u [1, 0] rfl rfl (op_loadT2 tokV22 (.t 0 rfl) hr236) <| .p rfl (op_move (.t 9 rfl)) <| .u [0] rfl rfl (op_indexRs Try.underlying22 tok3 (.t 1 rfl) (.t 0 rfl) hr236 ht48s) <| .e [] [0] [2] rfl rfl rfl rfl (op_storeR tok3 (.t 0 rfl) .k hr236 ht48s hm237) <| .nil _ _) (by kernel_rfl) (fun n11 a w hst => ?_)
        replace hst : St M w0 109 [(44, tv (n1 2)), (12, ti s7.1), (11, tv (n1 2)), (0, ti n_), (1, tsl rSDiff l_), (2, ti from_), (3, ti to_), (4, ti most_)] [own rVal 22 (us8.set (s7.1).toNat (n5 4)) (n1 2), rows rI 3 m237 (us8.set (s7.1).toNat (n5 4))] a w := (hst.pick [0, 6, 7, 8, 9, 10, 11, 12])
        refine hK235 _ _ ?_
        try clear hK235 K235
        refine wp_exit ?_
        obtain rfl := Option.some.inj h
        exact hJp153 (us8.set (s7.1).toNat (n5 4)) _ _ (hst.pick [1, 2, 3, 4, 5, 6, 7])
      · replace h := ite_f b277 h
        refine wp_skip ?_
        refine hK233 _ _ ?_
        try clear hK233 K233
        refine wp_seq_k (fun K238 hK238 => ?_)
        refine wp_reg mixed [] hst (fun _ => .p rfl (op_move (.t 5 rfl)) <| .p rfl (op_add (.t 0 rfl) .k) <| .p rfl (op_assign (.t 0 rfl)) <| .nil _ _) (by kernel_rfl) (fun n12 a w hst => ?_)
        replace hst : St M w0 109 [(14, ti (IntKind.i64.wrap (from_ + (1:Int)))), (12, ti s7.1), (11, tv (n1 2)), (0, ti n_), (1, tsl rSDiff l_), (2, ti from_), (3, ti to_), (4, ti most_)] [rows rI 3 p232 (us8.set (s7.1).toNat (n5 4)), own rVal 22 (us8.set (s7.1).toNat (n5 4)) (n1 2)] a w := (hst.pick [2, 4, 5, 6, 7, 8, 9, 10])
        refine hK238 _ _ ?_
        try clear hK238 K238
        obtain ⟨e240, he240, h⟩ := bind_some h
        have hJp258 : ∀ (p258 : List (List Int)) a w, p258 = e240 → St M w0 109 [(12, ti s7.1), (11, tv (n1 2)), (0, ti n_), (1, tsl rSDiff l_), (2, ti from_), (3, ti to_), (4, ti most_)] [rows rI 3 p258 (us8.set (s7.1).toNat (n5 4)), own rVal 22 (us8.set (s7.1).toNat (n5 4)) (n1 2)] a w → K152 a w := by
          intro p258 a w he hst
          subst he
          obtain rfl := Option.some.inj h
          exact hJp153 (us8.set (s7.1).toNat (n5 4)) _ _ ((hst.pick [0, 1, 2, 3, 4, 5, 6]).selA [1, 0] rfl)
        refine wp_block ?_
        refine wp_loopK _ (fun (s239 : Int × List (List Int)) a w => St M w0 109 [(14, ti s239.1), (12, ti s7.1), (11, tv (n1 2)), (0, ti n_), (1, tsl rSDiff l_), (2, ti from_), (3, ti to_), (4, ti most_)] [rows rI 3 s239.2 (us8.set (s7.1).toNat (n5 4)), own rVal 22 (us8.set (s7.1).toNat (n5 4)) (n1 2)] a w) _ _ he240 (hst.pick [0, 1, 2, 3, 4, 5, 6, 7]) ?_
        clear h
        intro s239 o a w K259 hI h ho hK259
        have hst := hI
        clear hI
        refine wp_seq_k (fun K260 hK260 => ?_)
        refine wp_seq_k (fun K261 hK261 => ?_)
        refine wp_reg mixed [] hst (fun _ => .p rfl (op_move (.t 0 rfl)) <| .p rfl (op_move (.t 5 rfl)) <| .p rfl (op_len Try.underlying48 (.t 0 rfl)) <| .p rfl (op_lss (.t 2 rfl) (.t 0 rfl)) <| .nil _ _) (by kernel_rfl) (fun n13 a w hst => ?_)
        replace hst : St M w0 109 [(54, tb (decide (s239.1 < (l_.length : Int)))), (14, ti s239.1), (12, ti s7.1), (11, tv (n1 2)), (0, ti n_), (1, tsl rSDiff l_), (2, ti from_), (3, ti to_), (4, ti most_)] [rows rI 3 s239.2 (us8.set (s7.1).toNat (n5 4)), own rVal 22 (us8.set (s7.1).toNat (n5 4)) (n1 2)] a w := (hst.pick [3, 4, 5, 6, 7, 8, 9, 10, 11])
        refine hK261 _ _ ?_
        try clear hK261 K261
        refine wp_test 0 hst rfl (fun b276 => ?_) (fun b276 => ?_)
        · replace h := ite_t b276 h
          refine wp_skip ?_
          refine hK260 _ _ ?_
          try clear hK260 K260
          refine wp_seq_k (fun K262 hK262 => ?_)
          refine wp_block ?_
          refine wp_seq_k (fun K263 hK263 => ?_)
          obtain ⟨t60, ht60, h⟩ := bind_some h
          obtain ⟨t63, ht63, h⟩ := bind_some h
          refine wp_reg mixed [] hst (fun _ => .p rfl (op_move (.t 4 rfl)) <| .p rfl (op_move (.t 6 rfl)) <| .p rfl (op_move (.t 3 rfl)) <| .p rfl (op_index Try.underlying48 tok71 (.t 1 rfl) (.t 0 rfl) ht60) <| .p rfl (op_field fld71_0 (.t 0 rfl)) <| .p rfl (op_loadT (u := (t60).A) tok3 (.t 0 rfl) rfl) <| .p rfl (op_callF call66 (row_ok ht63) (.cons (.of (.t 5 rfl)) <| .cons (.of (.t 0 rfl)) <| .nil)) <| .p rfl (op_assign (.t 0 rfl)) <| .nil _ _) (by kernel_rfl) (fun n15 a w hst => ?_)
          replace hst : St M w0 109 [(15, ti t63), (14, ti s239.1), (12, ti s7.1), (11, tv (n1 2)), (0, ti n_), (1, tsl rSDiff l_), (2, ti from_), (3, ti to_), (4, ti most_)] [rows rI 3 s239.2 (us8.set (s7.1).toNat (n5 4)), own rVal 22 (us8.set (s7.1).toNat (n5 4)) (n1 2)] a w := (hst.pick [7, 9, 10, 11, 12, 13, 14, 15, 16])
          refine hK263 _ _ ?_
          try clear hK263 K263
          refine wp_seq_k (fun K264 hK264 => ?_)
          obtain ⟨t67, ht67, h⟩ := bind_some h
          obtain ⟨t70, ht70, h⟩ := bind_some h
          refine wp_reg mixed [] hst (fun _ => .p rfl (op_move (.t 4 rfl)) <| .p rfl (op_move (.t 6 rfl)) <| .p rfl (op_move (.t 3 rfl)) <| .p rfl (op_index Try.underlying48 tok71 (.t 1 rfl) (.t 0 rfl) ht67) <| .p rfl (op_field fld71_1 (.t 0 rfl)) <| .p rfl (op_loadT (u := (t67).B) tok3 (.t 0 rfl) rfl) <| .p rfl (op_callF call66 (row_ok ht70) (.cons (.of (.t 5 rfl)) <| .cons (.of (.t 0 rfl)) <| .nil)) <| .p rfl (op_assign (.t 0 rfl)) <| .nil _ _) (by kernel_rfl) (fun n16 a w hst => ?_)
          replace hst : St M w0 109 [(16, ti t70), (15, ti t63), (14, ti s239.1), (12, ti s7.1), (11, tv (n1 2)), (0, ti n_), (1, tsl rSDiff l_), (2, ti from_), (3, ti to_), (4, ti most_)] [rows rI 3 s239.2 (us8.set (s7.1).toNat (n5 4)), own rVal 22 (us8.set (s7.1).toNat (n5 4)) (n1 2)] a w := (hst.pick [7, 8, 9, 10, 11, 12, 13, 14, 15, 16])
          refine hK264 _ _ ?_
          try clear hK264 K264
          refine wp_seq_k (fun K265 hK265 => ?_)
          obtain ⟨r266, hr266, h⟩ := bind_some h
          obtain ⟨t77, ht77, h⟩ := bind_some h
          refine wp_reg mixed [] hst (fun _ => .p rfl (op_move (.t 4 rfl)) <| .p rfl (op_move (.t 4 rfl)) <| .p rfl (op_sub (.t 0 rfl) .k) <| .u [1, 0] rfl rfl (op_indexT Try.underlying26 tokV22 (.t 2 rfl) (.t 0 rfl) hr266) <| .u [1, 0] rfl rfl (op_loadT2 tokV22 (.t 0 rfl) hr266) <| .p rfl (op_move (.t 5 rfl)) <| .u [0] rfl rfl (op_indexRi Try.underlying22 tok3 (.t 1 rfl) (.t 0 rfl) hr266 ht77) <| .u [0] rfl rfl (op_loadR tok3 (.t 0 rfl) hr266 ht77) <| .p rfl (op_lss (.t 0 rfl) .k) <| .nil _ _) (by kernel_rfl) (fun n17 a w hst => ?_)
          replace hst : St M w0 109 [(71, tv (n1 2)), (79, tb (decide (t77 < (1099511627776:Int)))), (16, ti t70), (15, ti t63), (14, ti s239.1), (12, ti s7.1), (11, tv (n1 2)), (0, ti n_), (1, tsl rSDiff l_), (2, ti from_), (3, ti to_), (4, ti most_)] [rows rI 3 s239.2 (us8.set (s7.1).toNat (n5 4)), own rVal 22 (us8.set (s7.1).toNat (n5 4)) (n1 2)] a w := (hst.pick [0, 8, 9, 10, 11, 12, 13, 14, 15, 16, 17, 18])
          refine hK265 _ _ ?_
          try clear hK265 K265
          obtain ⟨p267, hp267, h⟩ := bind_some h
          have hJp267 : ∀ a w, St M w0 109 [(14, ti s239.1), (12, ti s7.1), (11, tv (n1 2)), (0, ti n_), (1, tsl rSDiff l_), (2, ti from_), (3, ti to_), (4, ti most_)] [own rVal 22 (us8.set (s7.1).toNat (n5 4)) (n1 2), rows rI 3 p267 (us8.set (s7.1).toNat (n5 4))] a w → K262 a w := by
            intro a w hst
            refine hK262 _ _ ?_
            try clear hK262 K262
            refine wp_reg mixed [] hst (fun _ => .p rfl (op_move (.t 0 rfl)) <| .p rfl (op_add (.t 0 rfl) .k) <| .p rfl (op_assign (.t 0 rfl)) <| .nil _ _) (by kernel_rfl) (fun n14 a w hst => ?_)
            replace hst : St M w0 109 [(14, ti (IntKind.i64.wrap (s239.1 + (1:Int)))), (12, ti s7.1), (11, tv (n1 2)), (0, ti n_), (1, tsl rSDiff l_), (2, ti from_), (3, ti to_), (4, ti most_)] [own rVal 22 (us8.set (s7.1).toNat (n5 4)) (n1 2), rows rI 3 p267 (us8.set (s7.1).toNat (n5 4))] a w := (hst.pick [2, 3, 4, 5, 6, 7, 8, 9])
            exact hK259 _ _ _ (Option.some.inj h).symm ((hst.pick [0, 1, 2, 3, 4, 5, 6, 7]).selA [1, 0] rfl)
          replace h := hp267
          clear hp267
          refine wp_test 1 hst rfl (fun b275 => ?_) (fun b275 => ?_)
          · replace h := ite_t b275 h
            obtain ⟨r272, hr272, h⟩ := bind_some h
            obtain ⟨t90, ht90, h⟩ := bind_some h
            obtain ⟨t94, ht94, h⟩ := bind_some h
            obtain ⟨r273, hr273, h⟩ := bind_some h
            obtain ⟨t103, ht103, h⟩ := bind_some h
            obtain ⟨t107s, ht107s, h⟩ := bind_some h
            obtain ⟨m274, hm274, h⟩ := bind_some h
            refine wp_reg mixed [v0 (rows rI 3 m274 (us8.set (s7.1).toNat (n5 4)))] hst (fun _ => .p rfl (op_move (.t 6 rfl)) <| .p rfl (op_move (.t 6 rfl)) <| .u [1, 0] rfl rfl (op_indexT Try.underlying26 tokV22 (.t 1 rfl) (.t 0 rfl) hr272) <| .u [1, 0] rfl rfl (op_loadT2 tokV22 (.t 0 rfl) hr272) <| .p rfl (op_move (.t 7 rfl)) <| .p rfl (op_move (.t 11 rfl)) <| .p rfl (op_move (.t 11 rfl)) <| .u [1, 0] rfl rfl (op_indexT Try.underlying26 tokV22 (.t 1 rfl) (.t 0 rfl) hr272) <| .u [1, 0] rfl rfl (op_loadT2 tokV22 (.t 0 rfl) hr272) <| .p rfl (op_move (.t 12 rfl)) <| .u [0] rfl rfl (op_indexRi Try.underlying22 tok3 (.t 1 rfl) (.t 0 rfl) hr272 ht90) <| .u [0] rfl rfl (op_loadR tok3 (.t 0 rfl) hr272 ht90) <| .p rfl (op_move (.t 20 rfl)) <| .p rfl (op_move (.t 17 rfl)) <| .p rfl (op_index Try.underlying48 tok71 (.t 1 rfl) (.t 0 rfl) ht94) <| .p rfl (op_field fld71_2 (.t 0 rfl)) <| .p rfl (op_loadT (u := (t94).N) tok3 (.t 0 rfl) rfl) <| .p rfl (op_move (.t 23 rfl)) <| .p rfl (op_move (.t 23 rfl)) <| .p rfl (op_sub (.t 0 rfl) .k) <| .u [1, 0] rfl rfl (op_indexT Try.underlying26 tokV22 (.t 2 rfl) (.t 0 rfl) hr273) <| .u [1, 0] rfl rfl (op_loadT2 tokV22 (.t 0 rfl) hr273) <| .p rfl (op_move (.t 24 rfl)) <| .u [0] rfl rfl (op_indexRi Try.underlying22 tok3 (.t 1 rfl) (.t 0 rfl) hr273 ht103) <| .u [0] rfl rfl (op_loadR tok3 (.t 0 rfl) hr273 ht103) <| .p rfl (op_add (.t 8 rfl) (.t 0 rfl)) <| .p rfl (op_min (.t 14 rfl) (.t 0 rfl)) <| .u [0] rfl rfl (op_indexRs Try.underlying22 tok3 (.t 23 rfl) (.t 22 rfl) hr272 ht107s) <| .e [] [0] [2] rfl rfl rfl rfl (op_storeR tok3 (.t 0 rfl) (.t 1 rfl) hr272 ht107s hm274) <| .nil _ _) (by kernel_rfl) (fun n18 a w hst => ?_)
            replace hst : St M w0 109 [(80, tv (n1 2)), (85, tv (n1 2)), (97, tv (n1 2)), (71, tv (n1 2)), (14, ti s239.1), (12, ti s7.1), (11, tv (n1 2)), (0, ti n_), (1, tsl rSDiff l_), (2, ti from_), (3, ti to_), (4, ti most_)] [own rVal 22 (us8.set (s7.1).toNat (n5 4)) (n1 2), rows rI 3 m274 (us8.set (s7.1).toNat (n5 4))] a w := (hst.pick [0, 5, 17, 28, 32, 33, 34, 35, 36, 37, 38, 39])
            obtain rfl := Option.some.inj h
            exact hJp267 _ _ (hst.pick [4, 5, 6, 7, 8, 9, 10, 11])
          · replace h := ite_f b275 h
            refine wp_skip ?_
            obtain rfl := Option.some.inj h
            exact hJp267 _ _ ((hst.pick [4, 5, 6, 7, 8, 9, 10, 11]).selA [1, 0] rfl)
        · replace h := ite_f b276 h
          refine wp_exit ?_
          exact hJp258 _ _ _ (ho _ (Option.some.inj h).symm) (hst.pick [2, 3, 4, 5, 6, 7, 8])
    refine wp_block ?_
    refine wp_loopK _ (fun (s224 : Int × List (List Int)) a w => St M w0 109 [(13, ti s224.1), (12, ti s7.1), (11, tv (n1 2)), (0, ti n_), (1, tsl rSDiff l_), (2, ti from_), (3, ti to_), (4, ti most_)] [rows rI 3 s224.2 (us8.set (s7.1).toNat (n5 4)), own rVal 22 (us8.set (s7.1).toNat (n5 4)) (n1 2)] a w) _ _ he225 (hst.pick [0, 2, 3, 4, 5, 6, 7, 8]) ?_
    clear h
    intro s224 o a w K278 hI h ho hK278
    have hst := hI
    clear hI
    refine wp_seq_k (fun K279 hK279 => ?_)
    refine wp_seq_k (fun K280 hK280 => ?_)
    refine wp_reg mixed [] hst (fun _ => .p rfl (op_move (.t 0 rfl)) <| .p rfl (op_move (.t 4 rfl)) <| .p rfl (op_leq (.t 1 rfl) (.t 0 rfl)) <| .nil _ _) (by kernel_rfl) (fun n7 a w hst => ?_)
    replace hst : St M w0 109 [(33, tb (decide (s224.1 ≤ n_))), (13, ti s224.1), (12, ti s7.1), (11, tv (n1 2)), (0, ti n_), (1, tsl rSDiff l_), (2, ti from_), (3, ti to_), (4, ti most_)] [rows rI 3 s224.2 (us8.set (s7.1).toNat (n5 4)), own rVal 22 (us8.set (s7.1).toNat (n5 4)) (n1 2)] a w := (hst.pick [2, 3, 4, 5, 6, 7, 8, 9, 10])
    refine hK280 _ _ ?_
    try clear hK280 K280
    refine wp_test 0 hst rfl (fun b284 => ?_) (fun b284 => ?_)
    · replace h := ite_t b284 h
      refine wp_skip ?_
      refine hK279 _ _ ?_
      try clear hK279 K279
      refine wp_seq_k (fun K281 hK281 => ?_)
      refine wp_block ?_
      obtain ⟨r282, hr282, h⟩ := bind_some h
      obtain ⟨t41s, ht41s, h⟩ := bind_some h
      obtain ⟨m283, hm283, h⟩ := bind_some h
      refine wp_reg mixed [v0 (rows rI 3 m283 (us8.set (s7.1).toNat (n5 4)))] hst (fun _ => .p rfl (op_move (.t 3 rfl)) <| .p rfl (op_move (.t 3 rfl)) <| .u [1, 0] rfl rfl (op_indexT Try.underlying26 tokV22 (.t 1 rfl) (.t 0 rfl) hr282) <| .u [1, 0] rfl rfl (op_loadT2 tokV22 (.t 0 rfl) hr282) <| .p rfl (op_move (.t 5 rfl)) <| .u [0] rfl rfl (op_indexRs Try.underlying22 tok3 (.t 1 rfl) (.t 0 rfl) hr282 ht41s) <| .e [] [0] [2] rfl rfl rfl rfl (op_storeR tok3 (.t 0 rfl) .k hr282 ht41s hm283) <| .nil _ _) (by kernel_rfl) (fun n9 a w hst => ?_)
      replace hst : St M w0 109 [(36, tv (n1 2)), (13, ti s224.1), (12, ti s7.1), (11, tv (n1 2)), (0, ti n_), (1, tsl rSDiff l_), (2, ti from_), (3, ti to_), (4, ti most_)] [own rVal 22 (us8.set (s7.1).toNat (n5 4)) (n1 2), rows rI 3 m283 (us8.set (s7.1).toNat (n5 4))] a w := (hst.pick [0, 7, 8, 9, 10, 11, 12, 13, 14])
      refine hK281 _ _ ?_
      try clear hK281 K281
      refine wp_reg mixed [] hst (fun _ => .p rfl (op_move (.t 1 rfl)) <| .p rfl (op_add (.t 0 rfl) .k) <| .p rfl (op_assign (.t 0 rfl)) <| .nil _ _) (by kernel_rfl) (fun n8 a w hst => ?_)
      replace hst : St M w0 109 [(13, ti (IntKind.i64.wrap (s224.1 + (1:Int)))), (36, tv (n1 2)), (12, ti s7.1), (11, tv (n1 2)), (0, ti n_), (1, tsl rSDiff l_), (2, ti from_), (3, ti to_), (4, ti most_)] [own rVal 22 (us8.set (s7.1).toNat (n5 4)) (n1 2), rows rI 3 m283 (us8.set (s7.1).toNat (n5 4))] a w := (hst.pick [2, 3, 4, 5, 6, 7, 8, 9, 10])
      exact hK278 _ _ _ (Option.some.inj h).symm ((hst.pick [0, 2, 3, 4, 5, 6, 7, 8]).selA [1, 0] rfl)
    · replace h := ite_f b284 h
      refine wp_exit ?_
      exact hJp232 _ _ _ (ho _ (Option.some.inj h).symm) (hst.pick [2, 3, 4, 5, 6, 7, 8])
  · replace h := ite_f b285 h
    refine wp_exit ?_
    exact hJp146 _ us8 _ _ (ho _ (Option.some.inj h).symm) (hst.pick [2])

/- diorama/dioramaref14.Cycle -/
noncomputable def fCycleR (n_ : Int) (l_ : (List SDiff)) : Option ((List Int) × Int) := (fValidR14 n_ l_).bind fun t18 => (if (t18 != (0:Int)) = true then (some (([] : List Int), t18)) else (tailrec (fun (s8 : Int) => ((if (decide (s8 ≤ (IntKind.i64.wrap (n_ + (1:Int))))) = true then (tailrec (fun (s196 : Int) => ((if (decide (s196 < (l_.length : Int))) = true then (idx l_ s196).bind fun t40 => (frow n_ (t40).A).bind fun t43 => (fback n_ l_ s196 t43 (IntKind.i64.wrap (s8 - (1:Int)))).bind fun t46 => (idx l_ s196).bind fun t50 => (frow n_ (t50).B).bind fun t53 => (idx l_ s196).bind fun t56 => (idx t46 (IntKind.i64.wrap (s8 - (1:Int)))).bind fun t62 => (idx t62 t53).bind fun t65 => (opt ((decide (t65 ≥ (1099511627776:Int))) == false) (idx t46 (IntKind.i64.wrap (s8 - (1:Int)))) default).bind fun t73 => (opt ((decide (t65 ≥ (1099511627776:Int))) == false) (idx t73 t53) default).bind fun t76 => (if ((decide (t65 ≥ (1099511627776:Int))) || (decide ((IntKind.i64.wrap ((t56).N + t76)) ≥ (0:Int)))) = true then (some (.inl (IntKind.i64.wrap (s196 + (1:Int))))) else (tailrec (fun (s297 : Int × Int × Int × List Int) => ((if (decide (s297.1 ≥ (0:Int))) = true then (tailrec (fun (s339 : Int × Int × Int × List Int) => ((if (decide (s339.1 < (l_.length : Int))) = true then (idx l_ s339.1).bind fun t100 => (frow n_ (t100).B).bind fun t103 => (idx l_ s339.1).bind fun t107 => (frow n_ (t107).A).bind fun t110 => (opt ((t110 == s339.2.2.1) == true) (idx t46 s297.1) default).bind fun t116 => (opt ((t110 == s339.2.2.1) == true) (idx t116 t103) default).bind fun t119 => (opt (((t110 == s339.2.2.1) && (decide (t119 < (1099511627776:Int)))) == true) (idx l_ s339.1) default).bind fun t127 => (opt (((t110 == s339.2.2.1) && (decide (t119 < (1099511627776:Int)))) == true) (idx t46 s297.1) default).bind fun t133 => (opt (((t110 == s339.2.2.1) && (decide (t119 < (1099511627776:Int)))) == true) (idx t133 t103) default).bind fun t136 => (if (((t110 == s339.2.2.1) && (decide (t119 < (1099511627776:Int)))) && (decide ((IntKind.i64.wrap ((IntKind.i64.wrap (s339.2.1 + (t127).N)) + t136)) < (0:Int)))) = true then (rm (s339.2.2.2.length + [s339.1].length)).bind fun _ => (idx l_ s339.1).bind fun t148 => (some (.inr (t103, (IntKind.i64.wrap (s339.2.1 + (t148).N)), (s339.2.2.2 ++ [s339.1])))) else (some (.inl ((IntKind.i64.wrap (s339.1 + (1:Int))), s339.2.1, s339.2.2.1, s339.2.2.2)))) else (some (.inr (s339.2.2.1, s339.2.1, s339.2.2.2)))) : Option ((Int × Int × Int × List Int) ⊕ ((Int × Int × List Int))))) ((IntKind.i64.wrap (s196 + (1:Int))), s297.2.1, s297.2.2.1, s297.2.2.2)).bind fun (p352 : (Int × Int × List Int)) => (some (.inl ((IntKind.i64.wrap (s297.1 - (1:Int))), p352.2.1, p352.1, p352.2.2))) else (some (.inr s297.2.2.2))) : Option ((Int × Int × Int × List Int) ⊕ ((List Int))))) ((IntKind.i64.wrap (s8 - (2:Int))), (t56).N, t53, [s196])).bind fun (p331 : (List Int)) => (some (.inr (.inr ((0:Int), p331))))) else (some (.inr (.inl ())))) : Option ((Int) ⊕ ((Unit) ⊕ (Int × List Int))))) (0:Int)).bind fun (e197 : (Unit) ⊕ (Int × List Int)) => (match e197 with | .inl p281 => (some (.inl (IntKind.i64.wrap (s8 + (1:Int))))) | .inr p282 => (some (.inr (.inr (p282.1, p282.2))))) else (some (.inr (.inl ())))) : Option ((Int) ⊕ ((Unit) ⊕ (Int × List Int))))) (2:Int)).bind fun (e9 : (Unit) ⊕ (Int × List Int)) => (match e9 with | .inl p187 => (some (([] : List Int), (6:Int))) | .inr p188 => (some (p188.2, p188.1))))
set_option maxRecDepth 100000 in
set_option maxHeartbeats 4000000 in
theorem CycleR_ok {n_ : Int} {l_ : (List SDiff)} {r : (List Int) × Int} (h : fCycleR n_ l_ = some r) : FnOk Try.prog 35 [ti n_, tsl rSDiff l_] [] (fun _ => []) (fun _ => ttup [tsl rI r.1, ti r.2]) := by
  unfold fCycleR at h
  refine FnOk.enter Try.func35 rfl Try.ntmps35 (Nat.le_of_ble_eq_true rfl) (fun M0 M w0 a hpl hst => ?_)
  replace hst : St M w0 154 [(0, ti n_), (1, tsl rSDiff l_)] [] a w0 := hst
  refine wp_seq_k (fun K1 hK1 => ?_)
  refine wp_reg mixed [] hst (fun _ => .p rfl (op_assign (.nilsl (R := rI))) <| .p rfl (op_assign .k) <| .nil _ _) (by kernel_rfl) (fun n0 a w hst => ?_)
  replace hst : St M w0 154 [(0, ti n_), (1, tsl rSDiff l_)] [] a w := (hst.pick [2, 3])
  refine hK1 _ _ ?_
  try clear hK1 K1
  refine wp_seq_k (fun K2 hK2 => ?_)
  obtain ⟨t18, ht18, h⟩ := bind_some h
  refine wp_reg mixed [] hst (fun _ => .p rfl (op_move (.t 0 rfl)) <| .p rfl (op_move (.t 2 rfl)) <| .p rfl (op_callF call62 (ValidR14_ok ht18) (.cons (.of (.t 1 rfl)) <| .cons (.of (.t 0 rfl)) <| .nil)) <| .p rfl (op_assign (.t 0 rfl)) <| .nil _ _) (by kernel_rfl) (fun n1 a w hst => ?_)
  replace hst : St M w0 154 [(6, ti t18), (0, ti n_), (1, tsl rSDiff l_)] [] a w := (hst.pick [3, 4, 5])
  refine hK2 _ _ ?_
  try clear hK2 K2
  refine wp_seq_k (fun K3 hK3 => ?_)
  refine wp_seq_k (fun K4 hK4 => ?_)
  refine wp_reg mixed [] hst (fun _ => .p rfl (op_move (.t 0 rfl)) <| .p rfl (op_neq (.t 0 rfl) .k) <| .nil _ _) (by kernel_rfl) (fun n2 a w hst => ?_)
  replace hst : St M w0 154 [(20, tb (t18 != (0:Int))), (6, ti t18), (0, ti n_), (1, tsl rSDiff l_)] [] a w := (hst.pick [1, 2, 3, 4])
  refine hK4 _ _ ?_
  try clear hK4 K4
  refine wp_test 0 hst rfl (fun b369 => ?_) (fun b369 => ?_)
  · replace h := ite_t b369 h
    refine wp_seq_k (fun K5 hK5 => ?_)
    refine wp_reg mixed [] hst (fun _ => .p rfl (op_move (.t 1 rfl)) <| .p rfl (op_assign (.nilsl (R := rI))) <| .p rfl (op_assign (.t 1 rfl)) <| .nil _ _) (by kernel_rfl) (fun n3 a w hst => ?_)
    replace hst : St M w0 154 [(4, tsl rI ([] : List Int)), (5, ti t18)] [] a w := (hst.pick [1, 2])
    refine hK5 _ _ ?_
    try clear hK5 K5
    refine wp_ret ?_
    obtain rfl := Option.some.inj h
    exact ret_st undef [] hpl hst rfl (.tmp (.t 0 rfl) (.tmp (.t 1 rfl) .nil)) rfl rfl rfl
  · replace h := ite_f b369 h
    refine wp_skip ?_
    refine hK3 _ _ ?_
    try clear hK3 K3
    refine wp_seq_k (fun K6 hK6 => ?_)
    refine wp_seq_k (fun K7 hK7 => ?_)
    refine wp_reg mixed [] hst (fun _ => .p rfl (op_assign .k) <| .nil _ _) (by kernel_rfl) (fun n4 a w hst => ?_)
    replace hst : St M w0 154 [(7, ti (2:Int)), (0, ti n_), (1, tsl rSDiff l_)] [] a w := (hst.pick [0, 3, 4])
    refine hK7 _ _ ?_
    try clear hK7 K7
    obtain ⟨e9, he9, h⟩ := bind_some h
    have hJp187 : ∀ (p187 : Unit) a w, (.inl p187) = e9 → St M w0 154 [] [] a w → K6 a w := by
      intro p187 a w he hst
      subst he
      simp only at h
      refine hK6 _ _ ?_
      try clear hK6 K6
      refine wp_seq_k (fun K190 hK190 => ?_)
      refine wp_reg mixed [] hst (fun _ => .p rfl (op_assign (.nilsl (R := rI))) <| .p rfl (op_assign .k) <| .nil _ _) (by kernel_rfl) (fun n27 a w hst => ?_)
      replace hst : St M w0 154 [(4, tsl rI ([] : List Int)), (5, ti (6:Int))] [] a w := (hst.pick [0, 1])
      refine hK190 _ _ ?_
      try clear hK190 K190
      refine wp_ret ?_
      obtain rfl := Option.some.inj h
      exact ret_st undef [] hpl hst rfl (.tmp (.t 0 rfl) (.tmp (.t 1 rfl) .nil)) rfl rfl rfl
    have hJp188 : ∀ (p188 : Int × List Int) (v189 : Value) a w, (.inr p188) = e9 → St M w0 154 [(4, tv v189), (5, ti p188.1)] [own rI 3 p188.2 v189] a w → Ret Try.prog Try.f35 M0 [] w0 (fun _ => []) (fun _ => ttup [tsl rI r.1, ti r.2]) .ret a w := by
      intro p188 v189 a w he hst
      subst he
      simp only at h
      replace hst : St M w0 154 [(4, tsl rI p188.2), (5, ti p188.1)] [] a w := ((hst.shareO 0 rfl).pick [0, 2])
      obtain rfl := Option.some.inj h
      exact ret_st undef [] hpl hst rfl (.tmp (.t 0 rfl) (.tmp (.t 1 rfl) .nil)) rfl rfl rfl
    refine wp_block ?_
    refine wp_loopK _ (fun (s8 : Int) a w => St M w0 154 [(7, ti s8), (0, ti n_), (1, tsl rSDiff l_)] [] a w) _ _ he9 (hst.pick [0, 1, 2]) ?_
    clear h
    intro s8 o a w K191 hI h ho hK191
    have hst := hI
    clear hI
    refine wp_seq_k (fun K192 hK192 => ?_)
    refine wp_seq_k (fun K193 hK193 => ?_)
    refine wp_reg mixed [] hst (fun _ => .p rfl (op_move (.t 0 rfl)) <| .p rfl (op_move (.t 2 rfl)) <| .p rfl (op_add (.t 0 rfl) .k) <| .p rfl (op_leq (.t 2 rfl) (.t 0 rfl)) <| .nil _ _) (by kernel_rfl) (fun n5 a w hst => ?_)
    replace hst : St M w0 154 [(25, tb (decide (s8 ≤ (IntKind.i64.wrap (n_ + (1:Int)))))), (7, ti s8), (0, ti n_), (1, tsl rSDiff l_)] [] a w := (hst.pick [3, 4, 5, 6])
    refine hK193 _ _ ?_
    try clear hK193 K193
    refine wp_test 0 hst rfl (fun b368 => ?_) (fun b368 => ?_)
    · replace h := ite_t b368 h
      refine wp_skip ?_
      refine hK192 _ _ ?_
      try clear hK192 K192
      refine wp_seq_k (fun K194 hK194 => ?_)
      refine wp_block ?_
      refine wp_seq_k (fun K195 hK195 => ?_)
      refine wp_reg mixed [] hst (fun _ => .p rfl (op_assign .k) <| .nil _ _) (by kernel_rfl) (fun n7 a w hst => ?_)
      replace hst : St M w0 154 [(8, ti (0:Int)), (7, ti s8), (0, ti n_), (1, tsl rSDiff l_)] [] a w := (hst.pick [0, 2, 3, 4])
      refine hK195 _ _ ?_
      try clear hK195 K195
      obtain ⟨e197, he197, h⟩ := bind_some h
      have hJp281 : ∀ (p281 : Unit) a w, (.inl p281) = e197 → St M w0 154 [(7, ti s8), (0, ti n_), (1, tsl rSDiff l_)] [] a w → K194 a w := by
        intro p281 a w he hst
        subst he
        simp only at h
        refine hK194 _ _ ?_
        try clear hK194 K194
        refine wp_reg mixed [] hst (fun _ => .p rfl (op_move (.t 0 rfl)) <| .p rfl (op_add (.t 0 rfl) .k) <| .p rfl (op_assign (.t 0 rfl)) <| .nil _ _) (by kernel_rfl) (fun n6 a w hst => ?_)
        replace hst : St M w0 154 [(7, ti (IntKind.i64.wrap (s8 + (1:Int)))), (0, ti n_), (1, tsl rSDiff l_)] [] a w := (hst.pick [2, 3, 4])
        exact hK191 _ _ _ (Option.some.inj h).symm (hst.pick [0, 1, 2])
      have hJp282 : ∀ (p282 : Int × List Int) (v283 : Value) a w, (.inr p282) = e197 → St M w0 154 [(4, tv v283), (5, ti p282.1)] [own rI 3 p282.2 v283] a w → Ret Try.prog Try.f35 M0 [] w0 (fun _ => []) (fun _ => ttup [tsl rI r.1, ti r.2]) .ret a w := by
        intro p282 v283 a w he hst
        subst he
        simp only at h
        exact hJp188 _ v283 _ _ (ho _ (Option.some.inj h).symm) (hst.pick [0, 1])
      refine wp_block ?_
      refine wp_loopK _ (fun (s196 : Int) a w => St M w0 154 [(8, ti s196), (7, ti s8), (0, ti n_), (1, tsl rSDiff l_)] [] a w) _ _ he197 (hst.pick [0, 1, 2, 3]) ?_
      clear h
      intro s196 o a w K284 hI h ho hK284
      have hst := hI
      clear hI
      refine wp_seq_k (fun K285 hK285 => ?_)
      refine wp_seq_k (fun K286 hK286 => ?_)
      refine wp_reg mixed [] hst (fun _ => .p rfl (op_move (.t 0 rfl)) <| .p rfl (op_move (.t 4 rfl)) <| .p rfl (op_len Try.underlying48 (.t 0 rfl)) <| .p rfl (op_lss (.t 2 rfl) (.t 0 rfl)) <| .nil _ _) (by kernel_rfl) (fun n8 a w hst => ?_)
      replace hst : St M w0 154 [(31, tb (decide (s196 < (l_.length : Int)))), (8, ti s196), (7, ti s8), (0, ti n_), (1, tsl rSDiff l_)] [] a w := (hst.pick [3, 4, 5, 6, 7])
      refine hK286 _ _ ?_
      try clear hK286 K286
      refine wp_test 0 hst rfl (fun b367 => ?_) (fun b367 => ?_)
      · replace h := ite_t b367 h
        refine wp_skip ?_
        refine hK285 _ _ ?_
        try clear hK285 K285
        refine wp_seq_k (fun K287 hK287 => ?_)
        refine wp_block ?_
        refine wp_seq_k (fun K288 hK288 => ?_)
        obtain ⟨t40, ht40, h⟩ := bind_some h
        obtain ⟨t43, ht43, h⟩ := bind_some h
        obtain ⟨t46, ht46, h⟩ := bind_some h
        refine wp_reg mixed [] hst (fun _ => .p rfl (op_move (.t 3 rfl)) <| .p rfl (op_move (.t 5 rfl)) <| .p rfl (op_move (.t 3 rfl)) <| .p rfl (op_move (.t 6 rfl)) <| .p rfl (op_move (.t 8 rfl)) <| .p rfl (op_move (.t 6 rfl)) <| .p rfl (op_index Try.underlying48 tok71 (.t 1 rfl) (.t 0 rfl) ht40) <| .p rfl (op_field fld71_0 (.t 0 rfl)) <| .p rfl (op_loadT (u := (t40).A) tok3 (.t 0 rfl) rfl) <| .p rfl (op_callF call66 (row_ok ht43) (.cons (.of (.t 5 rfl)) <| .cons (.of (.t 0 rfl)) <| .nil)) <| .p rfl (op_move (.t 12 rfl)) <| .p rfl (op_sub (.t 0 rfl) .k) <| .p rfl (op_callF call65 ((back_ok ht46).roT roT_self) (.cons (.of (.t 11 rfl)) <| .cons (.of (.t 10 rfl)) <| .cons (.of (.t 9 rfl)) <| .cons (.of (.t 2 rfl)) <| .cons (.of (.t 0 rfl)) <| .nil)) <| .p rfl (op_assign (.t 0 rfl)) <| .nil _ _) (by kernel_rfl) (fun n10 a w hst => ?_)
        replace hst : St M w0 154 [(9, tsl (rSl rI) t46), (8, ti s196), (7, ti s8), (0, ti n_), (1, tsl rSDiff l_)] [] a w := (hst.pick [13, 15, 16, 17, 18])
        refine hK288 _ _ ?_
        try clear hK288 K288
        refine wp_seq_k (fun K289 hK289 => ?_)
        obtain ⟨t50, ht50, h⟩ := bind_some h
        obtain ⟨t53, ht53, h⟩ := bind_some h
        refine wp_reg mixed [] hst (fun _ => .p rfl (op_move (.t 3 rfl)) <| .p rfl (op_move (.t 5 rfl)) <| .p rfl (op_move (.t 3 rfl)) <| .p rfl (op_index Try.underlying48 tok71 (.t 1 rfl) (.t 0 rfl) ht50) <| .p rfl (op_field fld71_1 (.t 0 rfl)) <| .p rfl (op_loadT (u := (t50).B) tok3 (.t 0 rfl) rfl) <| .p rfl (op_callF call66 (row_ok ht53) (.cons (.of (.t 5 rfl)) <| .cons (.of (.t 0 rfl)) <| .nil)) <| .p rfl (op_assign (.t 0 rfl)) <| .nil _ _) (by kernel_rfl) (fun n11 a w hst => ?_)
        replace hst : St M w0 154 [(10, ti t53), (9, tsl (rSl rI) t46), (8, ti s196), (7, ti s8), (0, ti n_), (1, tsl rSDiff l_)] [] a w := (hst.pick [7, 8, 9, 10, 11, 12])
        refine hK289 _ _ ?_
        try clear hK289 K289
        refine wp_seq_k (fun K290 hK290 => ?_)
        obtain ⟨t56, ht56, h⟩ := bind_some h
        refine wp_reg mixed [] hst (fun _ => .p rfl (op_move (.t 5 rfl)) <| .p rfl (op_move (.t 3 rfl)) <| .p rfl (op_index Try.underlying48 tok71 (.t 1 rfl) (.t 0 rfl) ht56) <| .p rfl (op_field fld71_2 (.t 0 rfl)) <| .p rfl (op_loadT (u := (t56).N) tok3 (.t 0 rfl) rfl) <| .p rfl (op_assign (.t 0 rfl)) <| .nil _ _) (by kernel_rfl) (fun n12 a w hst => ?_)
        replace hst : St M w0 154 [(11, ti (t56).N), (10, ti t53), (9, tsl (rSl rI) t46), (8, ti s196), (7, ti s8), (0, ti n_), (1, tsl rSDiff l_)] [] a w := (hst.pick [5, 6, 7, 8, 9, 10, 11])
        refine hK290 _ _ ?_
        try clear hK290 K290
        refine wp_seq_k (fun K291 hK291 => ?_)
        refine wp_seq_k (fun K292 hK292 => ?_)
        obtain ⟨t62, ht62, h⟩ := bind_some h
        obtain ⟨t65, ht65, h⟩ := bind_some h
        obtain ⟨t73, ht73, h⟩ := bind_some h
        obtain ⟨t76, ht76, h⟩ := bind_some h
        refine wp_reg mixed [] hst (fun _ => .p rfl (op_move (.t 2 rfl)) <| .p rfl (op_move (.t 5 rfl)) <| .p rfl (op_sub (.t 0 rfl) .k) <| .p rfl (op_index Try.underlying26 tok22 (.t 2 rfl) (.t 0 rfl) ht62) <| .p rfl (op_load tok22 (.t 0 rfl)) <| .p rfl (op_move (.t 6 rfl)) <| .p rfl (op_index Try.underlying22 tok3 (.t 1 rfl) (.t 0 rfl) ht65) <| .p rfl (op_load tok3 (.t 0 rfl)) <| .p rfl (op_geq (.t 0 rfl) .k) <| .p rfl (op_move (.t 0 rfl)) <| .g rfl rfl (.b 0 rfl) (fun _ => op_move (.t 10 rfl)) <| .g rfl rfl (.b 1 rfl) (fun _ => op_move (.t 13 rfl)) <| .g rfl rfl (.b 2 rfl) (fun _ => op_move (.t 16 rfl)) <| .g rfl rfl (.b 3 rfl) (fun hc => op_sub (.cond (.t 0 rfl) hc) .k) <| .g rfl rfl (.b 4 rfl) (fun hc => op_index Try.underlying26 tok22 (.cond (.t 2 rfl) hc) (.cond (.t 0 rfl) hc) (opt_t ht73 hc)) <| .g rfl rfl (.b 5 rfl) (fun hc => op_load tok22 (.cond (.t 0 rfl) hc)) <| .g rfl rfl (.b 6 rfl) (fun _ => op_move (.t 17 rfl)) <| .g rfl rfl (.b 7 rfl) (fun hc => op_index Try.underlying22 tok3 (.cond (.t 1 rfl) hc) (.cond (.t 0 rfl) hc) (opt_t ht76 hc)) <| .g rfl rfl (.b 8 rfl) (fun hc => op_load tok3 (.cond (.t 0 rfl) hc)) <| .g rfl rfl (.b 9 rfl) (fun hc => op_add (.cond (.t 8 rfl) hc) (.cond (.t 0 rfl) hc)) <| .g rfl rfl (.b 10 rfl) (fun hc => op_geq (.cond (.t 0 rfl) hc) .k) <| .p rfl (op_or (.t 11 rfl) (fun hp => (.cond (.t 0 rfl) (beqF hp)))) <| .nil _ _) (by kernel_rfl) (fun n13 a w hst => ?_)
        replace hst : St M w0 154 [(80, tb ((decide (t65 ≥ (1099511627776:Int))) || (decide ((IntKind.i64.wrap ((t56).N + t76)) ≥ (0:Int))))), (11, ti (t56).N), (10, ti t53), (9, tsl (rSl rI) t46), (8, ti s196), (7, ti s8), (0, ti n_), (1, tsl rSDiff l_)] [] a w := (hst.pick [21, 22, 23, 24, 25, 26, 27, 28])
        refine hK292 _ _ ?_
        try clear hK292 K292
        refine wp_test 0 hst rfl (fun b366 => ?_) (fun b366 => ?_)
        · replace h := ite_t b366 h
          refine wp_exit ?_
          refine hK287 _ _ ?_
          try clear hK287 K287
          refine wp_reg mixed [] hst (fun _ => .p rfl (op_move (.t 4 rfl)) <| .p rfl (op_add (.t 0 rfl) .k) <| .p rfl (op_assign (.t 0 rfl)) <| .nil _ _) (by kernel_rfl) (fun n9 a w hst => ?_)
          replace hst : St M w0 154 [(8, ti (IntKind.i64.wrap (s196 + (1:Int)))), (7, ti s8), (0, ti n_), (1, tsl rSDiff l_)] [] a w := (hst.pick [2, 7, 8, 9])
          exact hK284 _ _ _ (Option.some.inj h).symm (hst.pick [0, 1, 2, 3])
        · replace h := ite_f b366 h
          refine wp_skip ?_
          refine hK291 _ _ ?_
          try clear hK291 K291
          refine wp_seq_k (fun K293 hK293 => ?_)
          refine wp_reg mixed [v1 1 (fun v0 => own rI 3 [s196] v0)] hst (fun _ => .p rfl (op_move (.t 4 rfl)) <| .m [] [0] rfl rfl rfl (op_buildSlO (R := rI) (us := [s196]) Try.underlying22 tok3 (.cons (.t 0 rfl) <| .nil _) rfl (Nat.le_of_ble_eq_true rfl) (Nat.le_of_ble_eq_true rfl)) <| .ud (f := fun v => tv v) 1 rfl [] rfl rfl (op_assign (.t 0 rfl)) <| .nil _ _) (by kernel_rfl) (fun n14 a w hst => ?_)
          replace hst : St M w0 154 [(82, tv (n14 1)), (12, tv (n14 1)), (11, ti (t56).N), (10, ti t53), (9, tsl (rSl rI) t46), (8, ti s196), (7, ti s8), (0, ti n_), (1, tsl rSDiff l_)] [own rI 3 [s196] (n14 1)] a w := (hst.pick [1, 2, 4, 5, 6, 7, 8, 9, 10])
          refine hK293 _ _ ?_
          try clear hK293 K293
          refine wp_seq_k (fun K295 hK295 => ?_)
          refine wp_seq_k (fun K296 hK296 => ?_)
          refine wp_reg mixed [] hst (fun _ => .p rfl (op_move (.t 6 rfl)) <| .p rfl (op_sub (.t 0 rfl) .k) <| .p rfl (op_assign (.t 0 rfl)) <| .nil _ _) (by kernel_rfl) (fun n15 a w hst => ?_)
          replace hst : St M w0 154 [(13, ti (IntKind.i64.wrap (s8 - (2:Int)))), (82, tv (n14 1)), (12, tv (n14 1)), (11, ti (t56).N), (10, ti t53), (9, tsl (rSl rI) t46), (8, ti s196), (0, ti n_), (1, tsl rSDiff l_)] [own rI 3 [s196] (n14 1)] a w := (hst.pick [2, 3, 4, 5, 6, 7, 8, 10, 11])
          refine hK296 _ _ ?_
          try clear hK296 K296
          obtain ⟨e299, he299, h⟩ := bind_some h
          have hJp331 : ∀ (p331 : List Int) (v332 : Value) a w, p331 = e299 → St M w0 154 [(12, tv v332)] [own rI 3 p331 v332] a w → K295 a w := by
            intro p331 v332 a w he hst
            subst he
            refine hK295 _ _ ?_
            try clear hK295 K295
            refine wp_seq_k (fun K333 hK333 => ?_)
            refine wp_reg mixed [] hst (fun _ => .p rfl (op_move (.t 0 rfl)) <| .p rfl (op_assign (.t 0 rfl)) <| .p rfl (op_assign .k) <| .nil _ _) (by kernel_rfl) (fun n26 a w hst => ?_)
            replace hst : St M w0 154 [(153, tv v332), (4, tv v332), (5, ti (0:Int)), (12, tv v332)] [own rI 3 p331 v332] a w := (hst.pick [0, 1, 2, 3])
            refine hK333 _ _ ?_
            try clear hK333 K333
            refine wp_ret ?_
            exact hJp282 _ v332 _ _ (ho _ (Option.some.inj h).symm) (hst.pick [1, 2])
          refine wp_block ?_
          refine wp_loopK _ (fun (s297 : Int × Int × Int × List Int) a w => ∃ v298 : Value, St M w0 154 [(13, ti s297.1), (12, tv v298), (11, ti s297.2.1), (10, ti s297.2.2.1), (9, tsl (rSl rI) t46), (8, ti s196), (0, ti n_), (1, tsl rSDiff l_)] [own rI 3 s297.2.2.2 v298] a w) _ _ he299 ⟨(n14 1), hst.pick [0, 2, 3, 4, 5, 6, 7, 8]⟩ ?_
          clear h
          intro s297 o a w K334 hI h ho hK334
          obtain ⟨v298, hst⟩ := hI
          refine wp_seq_k (fun K335 hK335 => ?_)
          refine wp_seq_k (fun K336 hK336 => ?_)
          refine wp_reg mixed [] hst (fun _ => .p rfl (op_move (.t 0 rfl)) <| .p rfl (op_geq (.t 0 rfl) .k) <| .nil _ _) (by kernel_rfl) (fun n16 a w hst => ?_)
          replace hst : St M w0 154 [(86, tb (decide (s297.1 ≥ (0:Int)))), (13, ti s297.1), (12, tv v298), (11, ti s297.2.1), (10, ti s297.2.2.1), (9, tsl (rSl rI) t46), (8, ti s196), (0, ti n_), (1, tsl rSDiff l_)] [own rI 3 s297.2.2.2 v298] a w := (hst.pick [1, 2, 3, 4, 5, 6, 7, 8, 9])
          refine hK336 _ _ ?_
          try clear hK336 K336
          refine wp_test 0 hst rfl (fun b365 => ?_) (fun b365 => ?_)
          · replace h := ite_t b365 h
            refine wp_skip ?_
            refine hK335 _ _ ?_
            try clear hK335 K335
            refine wp_seq_k (fun K337 hK337 => ?_)
            refine wp_block ?_
            refine wp_seq_k (fun K338 hK338 => ?_)
            refine wp_reg mixed [] hst (fun _ => .p rfl (op_move (.t 6 rfl)) <| .p rfl (op_add (.t 0 rfl) .k) <| .p rfl (op_assign (.t 0 rfl)) <| .nil _ _) (by kernel_rfl) (fun n18 a w hst => ?_)
            replace hst : St M w0 154 [(14, ti (IntKind.i64.wrap (s196 + (1:Int)))), (13, ti s297.1), (12, tv v298), (11, ti s297.2.1), (10, ti s297.2.2.1), (9, tsl (rSl rI) t46), (8, ti s196), (0, ti n_), (1, tsl rSDiff l_)] [own rI 3 s297.2.2.2 v298] a w := (hst.pick [2, 4, 5, 6, 7, 8, 9, 10, 11])
            refine hK338 _ _ ?_
            try clear hK338 K338
            obtain ⟨e341, he341, h⟩ := bind_some h
            have hJp352 : ∀ (p352 : Int × Int × List Int) (v353 : Value) a w, p352 = e341 → St M w0 154 [(10, ti p352.1), (11, ti p352.2.1), (12, tv v353), (13, ti s297.1), (9, tsl (rSl rI) t46), (8, ti s196), (0, ti n_), (1, tsl rSDiff l_)] [own rI 3 p352.2.2 v353] a w → K337 a w := by
              intro p352 v353 a w he hst
              subst he
              refine hK337 _ _ ?_
              try clear hK337 K337
              refine wp_reg mixed [] hst (fun _ => .p rfl (op_move (.t 3 rfl)) <| .p rfl (op_sub (.t 0 rfl) .k) <| .p rfl (op_assign (.t 0 rfl)) <| .nil _ _) (by kernel_rfl) (fun n17 a w hst => ?_)
              replace hst : St M w0 154 [(13, ti (IntKind.i64.wrap (s297.1 - (1:Int)))), (10, ti p352.1), (11, ti p352.2.1), (12, tv v353), (9, tsl (rSl rI) t46), (8, ti s196), (0, ti n_), (1, tsl rSDiff l_)] [own rI 3 p352.2.2 v353] a w := (hst.pick [2, 3, 4, 5, 6, 7, 8, 9])
              exact hK334 _ _ _ (Option.some.inj h).symm ⟨v353, hst.pick [0, 3, 2, 1, 4, 5, 6, 7]⟩
            refine wp_block ?_
            refine wp_loopK _ (fun (s339 : Int × Int × Int × List Int) a w => ∃ v340 : Value, St M w0 154 [(14, ti s339.1), (13, ti s297.1), (12, tv v340), (11, ti s339.2.1), (10, ti s339.2.2.1), (9, tsl (rSl rI) t46), (8, ti s196), (0, ti n_), (1, tsl rSDiff l_)] [own rI 3 s339.2.2.2 v340] a w) _ _ he341 ⟨v298, hst.pick [0, 1, 2, 3, 4, 5, 6, 7, 8]⟩ ?_
            clear h
            intro s339 o a w K354 hI h ho hK354
            obtain ⟨v340, hst⟩ := hI
            refine wp_seq_k (fun K355 hK355 => ?_)
            refine wp_seq_k (fun K356 hK356 => ?_)
            refine wp_reg mixed [] hst (fun _ => .p rfl (op_move (.t 0 rfl)) <| .p rfl (op_move (.t 9 rfl)) <| .p rfl (op_len Try.underlying48 (.t 0 rfl)) <| .p rfl (op_lss (.t 2 rfl) (.t 0 rfl)) <| .nil _ _) (by kernel_rfl) (fun n19 a w hst => ?_)
            replace hst : St M w0 154 [(94, tb (decide (s339.1 < (l_.length : Int)))), (14, ti s339.1), (13, ti s297.1), (12, tv v340), (11, ti s339.2.1), (10, ti s339.2.2.1), (9, tsl (rSl rI) t46), (8, ti s196), (0, ti n_), (1, tsl rSDiff l_)] [own rI 3 s339.2.2.2 v340] a w := (hst.pick [3, 4, 5, 6, 7, 8, 9, 10, 11, 12])
            refine hK356 _ _ ?_
            try clear hK356 K356
            refine wp_test 0 hst rfl (fun b364 => ?_) (fun b364 => ?_)
            · replace h := ite_t b364 h
              refine wp_skip ?_
              refine hK355 _ _ ?_
              try clear hK355 K355
              refine wp_seq_k (fun K357 hK357 => ?_)
              refine wp_block ?_
              refine wp_seq_k (fun K358 hK358 => ?_)
              obtain ⟨t100, ht100, h⟩ := bind_some h
              obtain ⟨t103, ht103, h⟩ := bind_some h
              refine wp_reg mixed [] hst (fun _ => .p rfl (op_move (.t 8 rfl)) <| .p rfl (op_move (.t 10 rfl)) <| .p rfl (op_move (.t 3 rfl)) <| .p rfl (op_index Try.underlying48 tok71 (.t 1 rfl) (.t 0 rfl) ht100) <| .p rfl (op_field fld71_1 (.t 0 rfl)) <| .p rfl (op_loadT (u := (t100).B) tok3 (.t 0 rfl) rfl) <| .p rfl (op_callF call66 (row_ok ht103) (.cons (.of (.t 5 rfl)) <| .cons (.of (.t 0 rfl)) <| .nil)) <| .p rfl (op_assign (.t 0 rfl)) <| .nil _ _) (by kernel_rfl) (fun n21 a w hst => ?_)
              replace hst : St M w0 154 [(15, ti t103), (14, ti s339.1), (13, ti s297.1), (12, tv v340), (11, ti s339.2.1), (10, ti s339.2.2.1), (9, tsl (rSl rI) t46), (8, ti s196), (0, ti n_), (1, tsl rSDiff l_)] [own rI 3 s339.2.2.2 v340] a w := (hst.pick [7, 9, 10, 11, 12, 13, 14, 15, 16, 17])
              refine hK358 _ _ ?_
              try clear hK358 K358
              refine wp_seq_k (fun K359 hK359 => ?_)
              obtain ⟨t107, ht107, h⟩ := bind_some h
              obtain ⟨t110, ht110, h⟩ := bind_some h
              obtain ⟨t116, ht116, h⟩ := bind_some h
              obtain ⟨t119, ht119, h⟩ := bind_some h
              obtain ⟨t127, ht127, h⟩ := bind_some h
              obtain ⟨t133, ht133, h⟩ := bind_some h
              obtain ⟨t136, ht136, h⟩ := bind_some h
              refine wp_reg mixed [] hst (fun _ => .p rfl (op_move (.t 8 rfl)) <| .p rfl (op_move (.t 10 rfl)) <| .p rfl (op_move (.t 3 rfl)) <| .p rfl (op_index Try.underlying48 tok71 (.t 1 rfl) (.t 0 rfl) ht107) <| .p rfl (op_field fld71_0 (.t 0 rfl)) <| .p rfl (op_loadT (u := (t107).A) tok3 (.t 0 rfl) rfl) <| .p rfl (op_callF call66 (row_ok ht110) (.cons (.of (.t 5 rfl)) <| .cons (.of (.t 0 rfl)) <| .nil)) <| .p rfl (op_move (.t 12 rfl)) <| .p rfl (op_eql (.t 1 rfl) (.t 0 rfl)) <| .p rfl (op_move (.t 0 rfl)) <| .g rfl rfl (.b 0 rfl) (fun _ => op_move (.t 16 rfl)) <| .g rfl rfl (.b 1 rfl) (fun _ => op_move (.t 13 rfl)) <| .g rfl rfl (.b 2 rfl) (fun hc => op_index Try.underlying26 tok22 (.cond (.t 1 rfl) hc) (.cond (.t 0 rfl) hc) (opt_t ht116 hc)) <| .g rfl rfl (.b 3 rfl) (fun hc => op_load tok22 (.cond (.t 0 rfl) hc)) <| .g rfl rfl (.b 4 rfl) (fun _ => op_move (.t 14 rfl)) <| .g rfl rfl (.b 5 rfl) (fun hc => op_index Try.underlying22 tok3 (.cond (.t 1 rfl) hc) (.cond (.t 0 rfl) hc) (opt_t ht119 hc)) <| .g rfl rfl (.b 6 rfl) (fun hc => op_load tok3 (.cond (.t 0 rfl) hc)) <| .g rfl rfl (.b 7 rfl) (fun hc => op_lss (.cond (.t 0 rfl) hc) .k) <| .p rfl (op_and (.t 8 rfl) (fun hp => (.cond (.t 0 rfl) (beqT hp)))) <| .p rfl (op_move (.t 0 rfl)) <| .g rfl rfl (.b 0 rfl) (fun _ => op_move (.t 24 rfl)) <| .g rfl rfl (.b 1 rfl) (fun _ => op_move (.t 30 rfl)) <| .g rfl rfl (.b 2 rfl) (fun _ => op_move (.t 23 rfl)) <| .g rfl rfl (.b 3 rfl) (fun hc => op_index Try.underlying48 tok71 (.cond (.t 1 rfl) hc) (.cond (.t 0 rfl) hc) (opt_t ht127 hc)) <| .g rfl rfl (.b 4 rfl) (fun hc => op_field fld71_2 (.cond (.t 0 rfl) hc)) <| .g rfl rfl (.b 5 rfl) (fun hc => op_loadT (u := (t127).N) tok3 (.cond (.t 0 rfl) hc) rfl) <| .g rfl rfl (.b 6 rfl) (fun hc => op_add (.cond (.t 5 rfl) hc) (.cond (.t 0 rfl) hc)) <| .g rfl rfl (.b 7 rfl) (fun _ => op_move (.t 33 rfl)) <| .g rfl rfl (.b 8 rfl) (fun _ => op_move (.t 30 rfl)) <| .g rfl rfl (.b 9 rfl) (fun hc => op_index Try.underlying26 tok22 (.cond (.t 1 rfl) hc) (.cond (.t 0 rfl) hc) (opt_t ht133 hc)) <| .g rfl rfl (.b 10 rfl) (fun hc => op_load tok22 (.cond (.t 0 rfl) hc)) <| .g rfl rfl (.b 11 rfl) (fun _ => op_move (.t 31 rfl)) <| .g rfl rfl (.b 12 rfl) (fun hc => op_index Try.underlying22 tok3 (.cond (.t 1 rfl) hc) (.cond (.t 0 rfl) hc) (opt_t ht136 hc)) <| .g rfl rfl (.b 13 rfl) (fun hc => op_load tok3 (.cond (.t 0 rfl) hc)) <| .g rfl rfl (.b 14 rfl) (fun hc => op_add (.cond (.t 7 rfl) hc) (.cond (.t 0 rfl) hc)) <| .g rfl rfl (.b 15 rfl) (fun hc => op_lss (.cond (.t 0 rfl) hc) .k) <| .p rfl (op_and (.t 16 rfl) (fun hp => (.cond (.t 0 rfl) (beqT hp)))) <| .nil _ _) (by kernel_rfl) (fun n22 a w hst => ?_)
              replace hst : St M w0 154 [(140, tb (((t110 == s339.2.2.1) && (decide (t119 < (1099511627776:Int)))) && (decide ((IntKind.i64.wrap ((IntKind.i64.wrap (s339.2.1 + (t127).N)) + t136)) < (0:Int))))), (15, ti t103), (14, ti s339.1), (13, ti s297.1), (12, tv v340), (11, ti s339.2.1), (10, ti s339.2.2.1), (9, tsl (rSl rI) t46), (8, ti s196), (0, ti n_), (1, tsl rSDiff l_)] [own rI 3 s339.2.2.2 v340] a w := (hst.pick [36, 37, 38, 39, 40, 41, 42, 43, 44, 45, 46])
              refine hK359 _ _ ?_
              try clear hK359 K359
              refine wp_test 0 hst rfl (fun b363 => ?_) (fun b363 => ?_)
              · replace h := ite_t b363 h
                refine wp_seq_k (fun K360 hK360 => ?_)
                obtain ⟨u144, hu144, h⟩ := bind_some h
                refine wp_reg mixed [v1 3 (fun v0 => own rI 3 (s339.2.2.2 ++ [s339.1]) v0)] hst (fun _ => .p rfl (op_move (.t 4 rfl)) <| .p rfl (op_move (.t 3 rfl)) <| .p rfl (op_buildSl (R := rI) (us := [s339.1]) Try.underlying22 tok3 (.cons (.t 0 rfl) <| .nil _) rfl (Nat.le_of_ble_eq_true rfl)) <| .e [] [0] [1] rfl rfl rfl rfl (op_append (R := rI) Try.underlying22 tok3 (Nat.le_of_ble_eq_true rfl) (.t 2 rfl) (.t 0 rfl) hu144) <| .ud (f := fun v => tv v) 3 rfl [] rfl rfl (op_assign (.t 0 rfl)) <| .nil _ _) (by kernel_rfl) (fun n23 a w hst => ?_)
                replace hst : St M w0 154 [(144, tv (n23 3)), (12, tv (n23 3)), (15, ti t103), (14, ti s339.1), (13, ti s297.1), (11, ti s339.2.1), (9, tsl (rSl rI) t46), (8, ti s196), (0, ti n_), (1, tsl rSDiff l_)] [own rI 3 (s339.2.2.2 ++ [s339.1]) (n23 3)] a w := (hst.pick [3, 4, 6, 7, 8, 9, 11, 12, 13, 14])
                refine hK360 _ _ ?_
                try clear hK360 K360
                refine wp_seq_k (fun K361 hK361 => ?_)
                obtain ⟨t148, ht148, h⟩ := bind_some h
                refine wp_reg mixed [] hst (fun _ => .p rfl (op_move (.t 5 rfl)) <| .p rfl (op_move (.t 10 rfl)) <| .p rfl (op_move (.t 5 rfl)) <| .p rfl (op_index Try.underlying48 tok71 (.t 1 rfl) (.t 0 rfl) ht148) <| .p rfl (op_field fld71_2 (.t 0 rfl)) <| .p rfl (op_loadT (u := (t148).N) tok3 (.t 0 rfl) rfl) <| .p rfl (op_add (.t 5 rfl) (.t 0 rfl)) <| .p rfl (op_assign (.t 0 rfl)) <| .nil _ _) (by kernel_rfl) (fun n24 a w hst => ?_)
                replace hst : St M w0 154 [(11, ti (IntKind.i64.wrap (s339.2.1 + (t148).N))), (144, tv (n23 3)), (12, tv (n23 3)), (15, ti t103), (13, ti s297.1), (9, tsl (rSl rI) t46), (8, ti s196), (0, ti n_), (1, tsl rSDiff l_)] [own rI 3 (s339.2.2.2 ++ [s339.1]) (n23 3)] a w := (hst.pick [7, 8, 9, 10, 12, 13, 14, 15, 16])
                refine hK361 _ _ ?_
                try clear hK361 K361
                refine wp_seq_k (fun K362 hK362 => ?_)
                refine wp_reg mixed [] hst (fun _ => .p rfl (op_move (.t 3 rfl)) <| .p rfl (op_assign (.t 0 rfl)) <| .nil _ _) (by kernel_rfl) (fun n25 a w hst => ?_)
                replace hst : St M w0 154 [(10, ti t103), (11, ti (IntKind.i64.wrap (s339.2.1 + (t148).N))), (144, tv (n23 3)), (12, tv (n23 3)), (13, ti s297.1), (9, tsl (rSl rI) t46), (8, ti s196), (0, ti n_), (1, tsl rSDiff l_)] [own rI 3 (s339.2.2.2 ++ [s339.1]) (n23 3)] a w := (hst.pick [1, 2, 3, 4, 6, 7, 8, 9, 10])
                refine hK362 _ _ ?_
                try clear hK362 K362
                refine wp_exit ?_
                exact hJp352 _ (n23 3) _ _ (ho _ (Option.some.inj h).symm) (hst.pick [0, 1, 3, 4, 5, 6, 7, 8])
              · replace h := ite_f b363 h
                refine wp_skip ?_
                refine hK357 _ _ ?_
                try clear hK357 K357
                refine wp_reg mixed [] hst (fun _ => .p rfl (op_move (.t 2 rfl)) <| .p rfl (op_add (.t 0 rfl) .k) <| .p rfl (op_assign (.t 0 rfl)) <| .nil _ _) (by kernel_rfl) (fun n20 a w hst => ?_)
                replace hst : St M w0 154 [(14, ti (IntKind.i64.wrap (s339.1 + (1:Int)))), (13, ti s297.1), (12, tv v340), (11, ti s339.2.1), (10, ti s339.2.2.1), (9, tsl (rSl rI) t46), (8, ti s196), (0, ti n_), (1, tsl rSDiff l_)] [own rI 3 s339.2.2.2 v340] a w := (hst.pick [2, 5, 6, 7, 8, 9, 10, 11, 12])
                exact hK354 _ _ _ (Option.some.inj h).symm ⟨v340, hst.pick [0, 1, 2, 3, 4, 5, 6, 7, 8]⟩
            · replace h := ite_f b364 h
              refine wp_exit ?_
              exact hJp352 _ v340 _ _ (ho _ (Option.some.inj h).symm) (hst.pick [5, 4, 3, 2, 6, 7, 8, 9])
          · replace h := ite_f b365 h
            refine wp_exit ?_
            exact hJp331 _ v298 _ _ (ho _ (Option.some.inj h).symm) (hst.pick [2])
      · replace h := ite_f b367 h
        refine wp_exit ?_
        exact hJp281 _ _ _ (ho _ (Option.some.inj h).symm) (hst.pick [2, 3, 4])
    · replace h := ite_f b368 h
      refine wp_exit ?_
      exact hJp187 _ _ _ (ho _ (Option.some.inj h).symm) (hst.pick [])


end Go.Proofs.Ytjniiejgccdhiaa
