/- Go functions as Lean functions, and the proofs that they compute them, written by a program. No condition. -/
import Derived.Test.YtjniiejgccdhiaaBenD
namespace Go.Proofs.Ytjniiejgccdhiaa
open Go.Sim

/- diorama/bounds.Range$1 -/
noncomputable def fRange1 (x_ : Int) : Option (Bool) := (some ((decide (x_ < (-1099511627776:Int))) || (decide (x_ > (1099511627776:Int)))))
set_option maxRecDepth 100000 in
set_option maxHeartbeats 4000000 in
theorem Range1_ok {x_ : Int} {r : Bool} (h : fRange1 x_ = some r) : FnOk Try.prog 67 [ti x_] [] (fun _ => []) (fun _ => tb r) := by
  unfold fRange1 at h
  refine FnOk.enter Try.func67 rfl Try.ntmps67 (Nat.le_of_ble_eq_true rfl) (fun M0 M w0 a hpl hst => ?_)
  replace hst : St M w0 9 [(0, ti x_)] [] a w0 := hst
  refine wp_seq_k (fun K1 hK1 => ?_)
  refine wp_reg mixed [] hst (fun _ => .p rfl (op_assign .k) <| .nil _ _) (by kernel_rfl) (fun n0 a w hst => ?_)
  replace hst : St M w0 9 [(0, ti x_)] [] a w := (hst.pick [1])
  refine hK1 _ _ ?_
  try clear hK1 K1
  refine wp_seq_k (fun K2 hK2 => ?_)
  refine wp_reg mixed [] hst (fun _ => .p rfl (op_move (.t 0 rfl)) <| .p rfl (op_lss (.t 0 rfl) .k) <| .p rfl (op_move (.t 0 rfl)) <| .g rfl rfl (.b 0 rfl) (fun _ => op_move (.t 3 rfl)) <| .g rfl rfl (.b 1 rfl) (fun hc => op_gtr (.cond (.t 0 rfl) hc) .k) <| .p rfl (op_or (.t 2 rfl) (fun hp => (.cond (.t 0 rfl) (beqF hp)))) <| .p rfl (op_assign (.t 0 rfl)) <| .nil _ _) (by kernel_rfl) (fun n1 a w hst => ?_)
  replace hst : St M w0 9 [(2, tb ((decide (x_ < (-1099511627776:Int))) || (decide (x_ > (1099511627776:Int)))))] [] a w := (hst.pick [6])
  refine hK2 _ _ ?_
  try clear hK2 K2
  refine wp_ret ?_
  obtain rfl := Option.some.inj h
  exact ret_st undef [] hpl hst rfl (.tmp (.t 0 rfl) .nil) rfl rfl rfl

/- slices.IndexFunc[[][]int,[]int] -/
noncomputable def fIndexL (s_ : (List (List Int))) (f_ : (List Int → Option Bool)) : Option (Int) := (tailrec (fun (s4 : Int) => ((if (decide (s4 < (s_.length : Int))) = true then (idx s_ s4).bind fun t14 => (f_ t14).bind fun t16 => (if t16 = true then (some (.inr (.inr s4))) else (some (.inl (IntKind.i64.wrap (s4 + (1:Int)))))) else (some (.inr (.inl ())))) : Option ((Int) ⊕ ((Unit) ⊕ (Int))))) (0:Int)).bind fun (e5 : (Unit) ⊕ (Int)) => (match e5 with | .inl p14 => (some (-1:Int)) | .inr p15 => (some p15))
set_option maxRecDepth 100000 in
set_option maxHeartbeats 4000000 in
theorem IndexL_ok {s_ : (List (List Int))} {f_ : (List Int → Option Bool)} {r : Int} (h : fIndexL s_ f_ = some r) : FnOk Try.prog 86 [tsl (rSl rI) s_, tpred Try.prog (rSl rI) f_] [] (fun _ => []) (fun _ => ti r) := by
  unfold fIndexL at h
  refine FnOk.enter Try.func86 rfl Try.ntmps86 (Nat.le_of_ble_eq_true rfl) (fun M0 M w0 a hpl hst => ?_)
  replace hst : St M w0 19 [(0, tsl (rSl rI) s_), (1, tpred Try.prog (rSl rI) f_)] [] a w0 := hst
  refine wp_seq_k (fun K1 hK1 => ?_)
  refine wp_reg mixed [] hst (fun _ => .p rfl (op_assign .k) <| .nil _ _) (by kernel_rfl) (fun n0 a w hst => ?_)
  replace hst : St M w0 19 [(0, tsl (rSl rI) s_), (1, tpred Try.prog (rSl rI) f_)] [] a w := (hst.pick [1, 2])
  refine hK1 _ _ ?_
  try clear hK1 K1
  refine wp_seq_k (fun K2 hK2 => ?_)
  refine wp_seq_k (fun K3 hK3 => ?_)
  refine wp_reg mixed [] hst (fun _ => .p rfl (op_move (.t 0 rfl)) <| .p rfl (op_len Try.underlying26 (.t 0 rfl)) <| .p rfl (op_move .k) <| .nil _ _) (by kernel_rfl) (fun n1 a w hst => ?_)
  replace hst : St M w0 19 [(7, ti (s_.length : Int)), (8, ti (0:Int)), (0, tsl (rSl rI) s_), (1, tpred Try.prog (rSl rI) f_)] [] a w := (hst.pick [1, 2, 3, 4])
  refine hK3 _ _ ?_
  try clear hK3 K3
  obtain ⟨e5, he5, h⟩ := bind_some h
  have hJp14 : ∀ (p14 : Unit) a w, (.inl p14) = e5 → St M w0 19 [] [] a w → K2 a w := by
    intro p14 a w he hst
    subst he
    simp only at h
    refine hK2 _ _ ?_
    try clear hK2 K2
    refine wp_seq_k (fun K16 hK16 => ?_)
    refine wp_reg mixed [] hst (fun _ => .p rfl (op_assign .k) <| .nil _ _) (by kernel_rfl) (fun n7 a w hst => ?_)
    replace hst : St M w0 19 [(4, ti (-1:Int))] [] a w := (hst.pick [0])
    refine hK16 _ _ ?_
    try clear hK16 K16
    refine wp_ret ?_
    obtain rfl := Option.some.inj h
    exact ret_st undef [] hpl hst rfl (.tmp (.t 0 rfl) .nil) rfl rfl rfl
  have hJp15 : ∀ (p15 : Int) a w, (.inr p15) = e5 → St M w0 19 [(4, ti p15)] [] a w → Ret Try.prog Try.f86 M0 [] w0 (fun _ => []) (fun _ => ti r) .ret a w := by
    intro p15 a w he hst
    subst he
    simp only at h
    obtain rfl := Option.some.inj h
    exact ret_st undef [] hpl hst rfl (.tmp (.t 0 rfl) .nil) rfl rfl rfl
  refine wp_block ?_
  refine wp_loopK _ (fun (s4 : Int) a w => St M w0 19 [(7, ti (s_.length : Int)), (8, ti s4), (0, tsl (rSl rI) s_), (1, tpred Try.prog (rSl rI) f_)] [] a w) _ _ he5 (hst.pick [0, 1, 2, 3]) ?_
  clear h
  intro s4 o a w K17 hI h ho hK17
  have hst := hI
  clear hI
  refine wp_seq_k (fun K18 hK18 => ?_)
  refine wp_reg mixed [] hst (fun _ => .p rfl (op_lss (.t 1 rfl) (.t 0 rfl)) <| .nil _ _) (by kernel_rfl) (fun n2 a w hst => ?_)
  replace hst : St M w0 19 [(9, tb (decide (s4 < (s_.length : Int)))), (7, ti (s_.length : Int)), (8, ti s4), (0, tsl (rSl rI) s_), (1, tpred Try.prog (rSl rI) f_)] [] a w := (hst.pick [0, 1, 2, 3, 4])
  refine hK18 _ _ ?_
  try clear hK18 K18
  refine wp_seq_k (fun K19 hK19 => ?_)
  refine wp_test 0 hst rfl (fun b25 => ?_) (fun b25 => ?_)
  · replace h := ite_t b25 h
    refine wp_skip ?_
    refine hK19 _ _ ?_
    try clear hK19 K19
    refine wp_seq_k (fun K20 hK20 => ?_)
    refine wp_block ?_
    refine wp_seq_k (fun K21 hK21 => ?_)
    refine wp_reg mixed [] hst (fun _ => .p rfl (op_move (.t 2 rfl)) <| .p rfl (op_assign (.t 0 rfl)) <| .nil _ _) (by kernel_rfl) (fun n3 a w hst => ?_)
    replace hst : St M w0 19 [(5, ti s4), (7, ti (s_.length : Int)), (8, ti s4), (0, tsl (rSl rI) s_), (1, tpred Try.prog (rSl rI) f_)] [] a w := (hst.pick [1, 3, 4, 5, 6])
    refine hK21 _ _ ?_
    try clear hK21 K21
    refine wp_seq_k (fun K22 hK22 => ?_)
    obtain ⟨t14, ht14, h⟩ := bind_some h
    obtain ⟨t16, ht16, h⟩ := bind_some h
    refine wp_reg mixed [] hst (fun _ => .p rfl (op_move (.t 4 rfl)) <| .p rfl (op_move (.t 4 rfl)) <| .p rfl (op_move (.t 2 rfl)) <| .p rfl (op_index Try.underlying26 tok22 (.t 1 rfl) (.t 0 rfl) ht14) <| .p rfl (op_load tok22 (.t 0 rfl)) <| .p rfl (op_callP (u := t14) (.t 4 rfl) (.t 0 rfl) ht16) <| .nil _ _) (by kernel_rfl) (fun n4 a w hst => ?_)
    replace hst : St M w0 19 [(16, tb t16), (5, ti s4), (7, ti (s_.length : Int)), (8, ti s4), (0, tsl (rSl rI) s_), (1, tpred Try.prog (rSl rI) f_)] [] a w := (hst.pick [5, 6, 7, 8, 9, 10])
    refine hK22 _ _ ?_
    try clear hK22 K22
    refine wp_test 0 hst rfl (fun b24 => ?_) (fun b24 => ?_)
    · replace h := ite_t b24 h
      refine wp_seq_k (fun K23 hK23 => ?_)
      refine wp_reg mixed [] hst (fun _ => .p rfl (op_move (.t 1 rfl)) <| .p rfl (op_assign (.t 0 rfl)) <| .nil _ _) (by kernel_rfl) (fun n5 a w hst => ?_)
      replace hst : St M w0 19 [(4, ti s4)] [] a w := (hst.pick [1])
      refine hK23 _ _ ?_
      try clear hK23 K23
      refine wp_ret ?_
      exact hJp15 _ _ _ (ho _ (Option.some.inj h).symm) (hst.pick [0])
    · replace h := ite_f b24 h
      refine wp_skip ?_
      refine hK20 _ _ ?_
      try clear hK20 K20
      refine wp_reg mixed [] hst (fun _ => .p rfl (op_add (.t 3 rfl) .k) <| .p rfl (op_move (.t 0 rfl)) <| .nil _ _) (by kernel_rfl) (fun n6 a w hst => ?_)
      replace hst : St M w0 19 [(8, ti (IntKind.i64.wrap (s4 + (1:Int)))), (7, ti (s_.length : Int)), (0, tsl (rSl rI) s_), (1, tpred Try.prog (rSl rI) f_)] [] a w := (hst.pick [1, 4, 5, 6])
      exact hK17 _ _ _ (Option.some.inj h).symm (hst.pick [1, 0, 2, 3])
  · replace h := ite_f b25 h
    refine wp_exit ?_
    exact hJp14 _ _ _ (ho _ (Option.some.inj h).symm) (hst.pick [])

/- slices.ContainsFunc[[][]int,[]int] -/
noncomputable def fContainsL (s_ : (List (List Int))) (f_ : (List Int → Option Bool)) : Option (Bool) := (fIndexL s_ f_).bind fun t7 => (some (decide (t7 ≥ (0:Int))))
set_option maxRecDepth 100000 in
set_option maxHeartbeats 4000000 in
theorem ContainsL_ok {s_ : (List (List Int))} {f_ : (List Int → Option Bool)} {r : Bool} (h : fContainsL s_ f_ = some r) : FnOk Try.prog 69 [tsl (rSl rI) s_, tpred Try.prog (rSl rI) f_] [] (fun _ => []) (fun _ => tb r) := by
  unfold fContainsL at h
  refine FnOk.enter Try.func69 rfl Try.ntmps69 (Nat.le_of_ble_eq_true rfl) (fun M0 M w0 a hpl hst => ?_)
  replace hst : St M w0 9 [(0, tsl (rSl rI) s_), (1, tpred Try.prog (rSl rI) f_)] [] a w0 := hst
  refine wp_seq_k (fun K1 hK1 => ?_)
  refine wp_reg mixed [] hst (fun _ => .p rfl (op_assign .k) <| .nil _ _) (by kernel_rfl) (fun n0 a w hst => ?_)
  replace hst : St M w0 9 [(0, tsl (rSl rI) s_), (1, tpred Try.prog (rSl rI) f_)] [] a w := (hst.pick [1, 2])
  refine hK1 _ _ ?_
  try clear hK1 K1
  refine wp_seq_k (fun K2 hK2 => ?_)
  obtain ⟨t7, ht7, h⟩ := bind_some h
  refine wp_reg mixed [] hst (fun _ => .p rfl (op_move (.t 0 rfl)) <| .p rfl (op_move (.t 2 rfl)) <| .p rfl (op_callF call86 (IndexL_ok ht7) (.cons (.of (.t 1 rfl)) <| .cons (.of (.t 0 rfl)) <| .nil)) <| .p rfl (op_geq (.t 0 rfl) .k) <| .p rfl (op_assign (.t 0 rfl)) <| .nil _ _) (by kernel_rfl) (fun n1 a w hst => ?_)
  replace hst : St M w0 9 [(4, tb (decide (t7 ≥ (0:Int))))] [] a w := (hst.pick [4])
  refine hK2 _ _ ?_
  try clear hK2 K2
  refine wp_ret ?_
  obtain rfl := Option.some.inj h
  exact ret_st undef [] hpl hst rfl (.tmp (.t 0 rfl) .nil) rfl rfl rfl

/- diorama/bounds.Range$2 -/
noncomputable def fRange2 (row_ : (List Int)) (c0_ : Int) : Option (Bool) := (opt (((row_.length : Int) != (IntKind.i64.wrap (c0_ + (1:Int)))) == false) (fContainsI row_ (fun x => fRange1 x)) default).bind fun t13 => (some (((row_.length : Int) != (IntKind.i64.wrap (c0_ + (1:Int)))) || t13))
set_option maxRecDepth 100000 in
set_option maxHeartbeats 4000000 in
theorem Range2_ok {row_ : (List Int)} {c0_ : Int} {r : Bool} (h : fRange2 row_ c0_ = some r) : FnOk Try.prog 70 [tsl rI row_, tptr (rI.cs c0_), tptr [tcloE 67 []]] [] (fun _ => []) (fun _ => tb r) := by
  unfold fRange2 at h
  refine FnOk.enter Try.func70 rfl Try.ntmps70 (Nat.le_of_ble_eq_true rfl) (fun M0 M w0 a hpl hst => ?_)
  replace hst : St M w0 15 [(0, tsl rI row_), (1, tptr (rI.cs c0_)), (2, tptr [tcloE 67 []])] [] a w0 := hst
  refine wp_seq_k (fun K1 hK1 => ?_)
  refine wp_reg mixed [] hst (fun _ => .p rfl (op_assign .k) <| .nil _ _) (by kernel_rfl) (fun n0 a w hst => ?_)
  replace hst : St M w0 15 [(0, tsl rI row_), (1, tptr (rI.cs c0_)), (2, tptr [tcloE 67 []])] [] a w := (hst.pick [1, 2, 3])
  refine hK1 _ _ ?_
  try clear hK1 K1
  refine wp_seq_k (fun K2 hK2 => ?_)
  obtain ⟨t13, ht13, h⟩ := bind_some h
  refine wp_reg mixed [] hst (fun _ => .p rfl (op_move (.t 0 rfl)) <| .p rfl (op_len Try.underlying22 (.t 0 rfl)) <| .p rfl (op_load tok3 (.t 3 rfl)) <| .p rfl (op_add (.t 0 rfl) .k) <| .p rfl (op_neq (.t 2 rfl) (.t 0 rfl)) <| .p rfl (op_move (.t 0 rfl)) <| .g rfl rfl (.b 0 rfl) (fun _ => op_move (.t 6 rfl)) <| .g rfl rfl (.b 1 rfl) (fun _ => op_load (R := rCloE 67 []) (u := ()) tokC93 (.t 9 rfl)) <| .g rfl rfl (.b 2 rfl) (fun hc => op_callF call68 (ContainsI_ok (opt_t ht13 hc)) (.cons (.of (.cond (.t 1 rfl) hc)) <| .cons (.of (Fct.weak (.cond (.t 0 rfl) hc) (pred_of (R := rI) call67 (fun _ _ hq => Range1_ok hq)))) <| .nil)) <| .p rfl (op_or (.t 3 rfl) (fun hp => (.cond (.t 0 rfl) (beqF hp)))) <| .p rfl (op_assign (.t 0 rfl)) <| .nil _ _) (by kernel_rfl) (fun n1 a w hst => ?_)
  replace hst : St M w0 15 [(4, tb (((row_.length : Int) != (IntKind.i64.wrap (c0_ + (1:Int)))) || t13))] [] a w := (hst.pick [10])
  refine hK2 _ _ ?_
  try clear hK2 K2
  refine wp_ret ?_
  obtain rfl := Option.some.inj h
  exact ret_st undef [] hpl hst rfl (.tmp (.t 0 rfl) .nil) rfl rfl rfl

/- diorama/bounds.Range -/
noncomputable def fRange (c_ : (List (List Int))) (values_ : (List Int)) : Option (Int × Int × Int) := (opt (((decide ((IntKind.i64.wrap ((c_.length : Int) - (1:Int))) < (0:Int))) || (decide ((IntKind.i64.wrap ((c_.length : Int) - (1:Int))) > (10:Int)))) == false) (fContainsI values_ (fun x => fRange1 x)) default).bind fun t30 => (opt ((((decide ((IntKind.i64.wrap ((c_.length : Int) - (1:Int))) < (0:Int))) || (decide ((IntKind.i64.wrap ((c_.length : Int) - (1:Int))) > (10:Int)))) || t30) == false) (fContainsL c_ (fun x => fRange2 x (IntKind.i64.wrap ((c_.length : Int) - (1:Int))))) default).bind fun t35 => (if ((((decide ((IntKind.i64.wrap ((c_.length : Int) - (1:Int))) < (0:Int))) || (decide ((IntKind.i64.wrap ((c_.length : Int) - (1:Int))) > (10:Int)))) || t30) || t35) = true then (some ((0:Int), (0:Int), (1:Int))) else (if (decide ((values_.length : Int) ≥ (IntKind.i64.wrap ((c_.length : Int) - (1:Int))))) = true then (some ((0:Int), (0:Int), (6:Int))) else (fClone values_).bind fun t41 => (rm (t41.length + [(0:Int)].length)).bind fun _ => (tailrec (fun (s18 : Int × List Int × List Int) => ((if (decide (s18.1 < ((t41 ++ [(0:Int)]).length : Int))) = true then (idx (t41 ++ [(0:Int)]) s18.1).bind fun t48 => ((if (s18.1 == (values_.length : Int)) = true then (some (IntKind.i64.wrap ((c_.length : Int) - (1:Int)))) else (some s18.1))).bind fun (p69 : Int) => (idx c_ p69).bind fun t56 => (idx t56 (values_.length : Int)).bind fun t59 => ((if (decide (t59 < (1099511627776:Int))) = true then (idx c_ p69).bind fun t66 => (idx t66 (values_.length : Int)).bind fun t69 => (rm (s18.2.2.length + [(IntKind.i64.wrap (t48 - t69))].length)).bind fun _ => (some (s18.2.2 ++ [(IntKind.i64.wrap (t48 - t69))])) else (some s18.2.2))).bind fun (p73 : List Int) => (idx c_ (values_.length : Int)).bind fun t76 => (idx t76 p69).bind fun t79 => ((if (decide (t79 < (1099511627776:Int))) = true then (idx c_ (values_.length : Int)).bind fun t86 => (idx t86 p69).bind fun t89 => (rm (s18.2.1.length + [(IntKind.i64.wrap (t48 + t89))].length)).bind fun _ => (some (s18.2.1 ++ [(IntKind.i64.wrap (t48 + t89))])) else (some s18.2.1))).bind fun (p77 : List Int) => (some (.inl ((IntKind.i64.wrap (s18.1 + (1:Int))), p77, p73))) else (some (.inr (s18.2.1, s18.2.2)))) : Option ((Int × List Int × List Int) ⊕ ((List Int × List Int))))) ((0:Int), ([] : List Int), ([] : List Int))).bind fun (p43 : (List Int × List Int)) => ((if (decide ((p43.2.length : Int) > (0:Int))) = true then (fMax p43.2).bind fun t99 => (some t99) else (some (-1099511627776:Int)))).bind fun (p49 : Int) => ((if (decide ((p43.1.length : Int) > (0:Int))) = true then (fMin p43.1).bind fun t104 => (some t104) else (some (1099511627776:Int)))).bind fun (p53 : Int) => (if (decide (p49 > p53)) = true then (some ((0:Int), (0:Int), (14:Int))) else (some (p49, p53, (0:Int))))))
set_option maxRecDepth 100000 in
set_option maxHeartbeats 4000000 in
theorem Range_ok {c_ : (List (List Int))} {values_ : (List Int)} {r : Int × Int × Int} (h : fRange c_ values_ = some r) : FnOk Try.prog 38 [tsl (rSl rI) c_, tsl rI values_] [] (fun _ => []) (fun _ => ttup [ti r.1, ti r.2.1, ti r.2.2]) := by
  unfold fRange at h
  refine FnOk.enter Try.func38 rfl Try.ntmps38 (Nat.le_of_ble_eq_true rfl) (fun M0 M w0 a hpl hst => ?_)
  replace hst : St M w0 110 [(0, tsl (rSl rI) c_), (1, tsl rI values_)] [] a w0 := hst
  refine wp_seq_k (fun K1 hK1 => ?_)
  refine wp_reg mixed [] hst (fun _ => .p rfl (op_assign .k) <| .p rfl (op_assign .k) <| .p rfl (op_assign .k) <| .nil _ _) (by kernel_rfl) (fun n0 a w hst => ?_)
  replace hst : St M w0 110 [(0, tsl (rSl rI) c_), (1, tsl rI values_)] [] a w := (hst.pick [3, 4])
  refine hK1 _ _ ?_
  try clear hK1 K1
  refine wp_seq_k (fun K2 hK2 => ?_)
  refine wp_reg mixed [v1 5 (fun v0 => box (rI.cs (0:Int)) v0), v1 5 (fun v0 => box (rI.cs (IntKind.i64.wrap ((c_.length : Int) - (1:Int)))) v0)] hst (fun _ => .p rfl (op_move (.t 0 rfl)) <| .p rfl (op_len Try.underlying26 (.t 0 rfl)) <| .p rfl (op_sub (.t 0 rfl) .k) <| .p rfl (op_move (.t 4 rfl)) <| .p rfl (op_len Try.underlying22 (.t 0 rfl)) <| .m [] [0] rfl rfl rfl (op_alloc (R := rI) (a := (0:Int)) tok3 zok3) <| .e [] [0] [1] rfl rfl rfl rfl (op_storeB (R := rI) (a := (IntKind.i64.wrap ((c_.length : Int) - (1:Int)))) tok3 (.t 0 rfl) (.t 3 rfl) (Nat.le_of_ble_eq_true rfl)) <| .p rfl (op_assign (.t 1 rfl)) <| .nil _ _) (by kernel_rfl) (fun n1 a w hst => ?_)
  replace hst : St M w0 110 [(7, tptr (rI.cs (IntKind.i64.wrap ((c_.length : Int) - (1:Int))))), (8, ti (values_.length : Int)), (0, tsl (rSl rI) c_), (1, tsl rI values_)] [] a w := ((((hst.pick [5, 6, 7, 8]).shareB 0 rfl).add 0 rfl (fun _ _ _ h => h.2)).pick [0, 3, 4, 5])
  refine hK2 _ _ ?_
  try clear hK2 K2
  refine wp_seq_k (fun K4 hK4 => ?_)
  refine wp_reg mixed [v1 0 (fun v0 => box (rClo.cs (none : Option (FuncId × List Value))) v0), v1 0 (fun v0 => box ((rCloE 67 []).cs ()) v0)] hst (fun _ => .m [] [0] rfl rfl rfl (op_alloc (R := rClo) (a := (none : Option (FuncId × List Value))) tok93 zok93) <| .e [] [0] [1] rfl rfl rfl rfl (op_storeB (R := rCloE 67 []) (a := ()) tokC93 (.t 0 rfl) .fnE (Nat.le_of_ble_eq_true rfl)) <| .nil _ _) (by kernel_rfl) (fun n2 a w hst => ?_)
  replace hst : St M w0 110 [(9, tptr [tcloE 67 []]), (7, tptr (rI.cs (IntKind.i64.wrap ((c_.length : Int) - (1:Int))))), (8, ti (values_.length : Int)), (0, tsl (rSl rI) c_), (1, tsl rI values_)] [] a w := ((((hst.pick [0, 1, 2, 3, 4]).shareB 0 rfl).add 0 rfl (fun _ _ _ h => h.2)).pick [0, 3, 4, 5, 6])
  refine hK4 _ _ ?_
  try clear hK4 K4
  refine wp_seq_k (fun K6 hK6 => ?_)
  refine wp_seq_k (fun K7 hK7 => ?_)
  obtain ⟨t30, ht30, h⟩ := bind_some h
  obtain ⟨t35, ht35, h⟩ := bind_some h
  refine wp_reg mixed [] hst (fun _ => .p rfl (op_load tok3 (.t 1 rfl)) <| .p rfl (op_lss (.t 0 rfl) .k) <| .p rfl (op_move (.t 0 rfl)) <| .g rfl rfl (.b 0 rfl) (fun _ => op_load tok3 (.t 4 rfl)) <| .g rfl rfl (.b 1 rfl) (fun hc => op_gtr (.cond (.t 0 rfl) hc) .k) <| .p rfl (op_or (.t 2 rfl) (fun hp => (.cond (.t 0 rfl) (beqF hp)))) <| .p rfl (op_move (.t 0 rfl)) <| .g rfl rfl (.b 0 rfl) (fun _ => op_move (.t 11 rfl)) <| .g rfl rfl (.b 1 rfl) (fun _ => op_load (R := rCloE 67 []) (u := ()) tokC93 (.t 8 rfl)) <| .g rfl rfl (.b 2 rfl) (fun hc => op_callF call68 (ContainsI_ok (opt_t ht30 hc)) (.cons (.of (.cond (.t 1 rfl) hc)) <| .cons (.of (Fct.weak (.cond (.t 0 rfl) hc) (pred_of (R := rI) call67 (fun _ _ hq => Range1_ok hq)))) <| .nil)) <| .p rfl (op_or (.t 3 rfl) (fun hp => (.cond (.t 0 rfl) (beqF hp)))) <| .p rfl (op_move (.t 0 rfl)) <| .g rfl rfl (.b 0 rfl) (fun _ => op_move (.t 15 rfl)) <| .g rfl rfl (.b 1 rfl) (fun _ => op_clo (.cons (.t 14 rfl) <| .cons (.t 13 rfl) <| .nil)) <| .g rfl rfl (.b 2 rfl) (fun hc => op_callF call69 (ContainsL_ok (opt_t ht35 hc)) (.cons (.of (.cond (.t 1 rfl) hc)) <| .cons (.of (Fct.weak (.cond (.t 0 rfl) hc) (pred_of (R := (rSl rI)) call70 (fun _ _ hq => Range2_ok hq)))) <| .nil)) <| .p rfl (op_or (.t 3 rfl) (fun hp => (.cond (.t 0 rfl) (beqF hp)))) <| .nil _ _) (by kernel_rfl) (fun n3 a w hst => ?_)
  replace hst : St M w0 110 [(36, tb ((((decide ((IntKind.i64.wrap ((c_.length : Int) - (1:Int))) < (0:Int))) || (decide ((IntKind.i64.wrap ((c_.length : Int) - (1:Int))) > (10:Int)))) || t30) || t35)), (7, tptr (rI.cs (IntKind.i64.wrap ((c_.length : Int) - (1:Int))))), (8, ti (values_.length : Int)), (0, tsl (rSl rI) c_), (1, tsl rI values_)] [] a w := (hst.pick [15, 17, 18, 19, 20])
  refine hK7 _ _ ?_
  try clear hK7 K7
  refine wp_test 0 hst rfl (fun b85 => ?_) (fun b85 => ?_)
  · replace h := ite_t b85 h
    refine wp_seq_k (fun K8 hK8 => ?_)
    refine wp_reg mixed [] hst (fun _ => .p rfl (op_assign .k) <| .p rfl (op_assign .k) <| .p rfl (op_assign .k) <| .nil _ _) (by kernel_rfl) (fun n4 a w hst => ?_)
    replace hst : St M w0 110 [(4, ti (0:Int)), (5, ti (0:Int)), (6, ti (1:Int))] [] a w := (hst.pick [0, 1, 2])
    refine hK8 _ _ ?_
    try clear hK8 K8
    refine wp_ret ?_
    obtain rfl := Option.some.inj h
    exact ret_st undef [] hpl hst rfl (.tmp (.t 0 rfl) (.tmp (.t 1 rfl) (.tmp (.t 2 rfl) .nil))) rfl rfl rfl
  · replace h := ite_f b85 h
    refine wp_skip ?_
    refine hK6 _ _ ?_
    try clear hK6 K6
    refine wp_seq_k (fun K9 hK9 => ?_)
    refine wp_seq_k (fun K10 hK10 => ?_)
    refine wp_reg mixed [] hst (fun _ => .p rfl (op_move (.t 2 rfl)) <| .p rfl (op_load tok3 (.t 2 rfl)) <| .p rfl (op_geq (.t 1 rfl) (.t 0 rfl)) <| .nil _ _) (by kernel_rfl) (fun n5 a w hst => ?_)
    replace hst : St M w0 110 [(39, tb (decide ((values_.length : Int) ≥ (IntKind.i64.wrap ((c_.length : Int) - (1:Int)))))), (7, tptr (rI.cs (IntKind.i64.wrap ((c_.length : Int) - (1:Int))))), (8, ti (values_.length : Int)), (0, tsl (rSl rI) c_), (1, tsl rI values_)] [] a w := (hst.pick [2, 4, 5, 6, 7])
    refine hK10 _ _ ?_
    try clear hK10 K10
    refine wp_test 0 hst rfl (fun b84 => ?_) (fun b84 => ?_)
    · replace h := ite_t b84 h
      refine wp_seq_k (fun K11 hK11 => ?_)
      refine wp_reg mixed [] hst (fun _ => .p rfl (op_assign .k) <| .p rfl (op_assign .k) <| .p rfl (op_assign .k) <| .nil _ _) (by kernel_rfl) (fun n6 a w hst => ?_)
      replace hst : St M w0 110 [(4, ti (0:Int)), (5, ti (0:Int)), (6, ti (6:Int))] [] a w := (hst.pick [0, 1, 2])
      refine hK11 _ _ ?_
      try clear hK11 K11
      refine wp_ret ?_
      obtain rfl := Option.some.inj h
      exact ret_st undef [] hpl hst rfl (.tmp (.t 0 rfl) (.tmp (.t 1 rfl) (.tmp (.t 2 rfl) .nil))) rfl rfl rfl
    · replace h := ite_f b84 h
      refine wp_skip ?_
      refine hK9 _ _ ?_
      try clear hK9 K9
      refine wp_seq_k (fun K12 hK12 => ?_)
      refine wp_reg mixed [] hst (fun _ => .p rfl (op_assign .k) <| .p rfl (op_assign .k) <| .nil _ _) (by kernel_rfl) (fun n7 a w hst => ?_)
      replace hst : St M w0 110 [(10, tv (.slice none 0 0)), (11, tv (.slice none 0 0)), (7, tptr (rI.cs (IntKind.i64.wrap ((c_.length : Int) - (1:Int))))), (8, ti (values_.length : Int)), (0, tsl (rSl rI) c_), (1, tsl rI values_)] [own rI 3 ([] : List Int) (.slice none 0 0), own rI 3 ([] : List Int) (.slice none 0 0)] a w := (((hst.pick [0, 1, 3, 4, 5, 6]).nil (rI) 3).nil (rI) 3)
      refine hK12 _ _ ?_
      try clear hK12 K12
      refine wp_seq_k (fun K15 hK15 => ?_)
      refine wp_seq_k (fun K16 hK16 => ?_)
      obtain ⟨t41, ht41, h⟩ := bind_some h
      obtain ⟨u43, hu43, h⟩ := bind_some h
      refine wp_reg mixed [v1 1 (fun v0 => own rI 3 t41 v0), v1 3 (fun v0 => own rI 3 (t41 ++ [(0:Int)]) v0)] hst (fun _ => .p rfl (op_move (.t 5 rfl)) <| .m [] [2] rfl rfl rfl (op_callF call47 (Clone_ok ht41) (.cons (.of (.t 0 rfl)) <| .nil)) <| .p rfl (op_buildSl (R := rI) (us := [(0:Int)]) Try.underlying22 tok3 (.cons .k <| .nil _) rfl (Nat.le_of_ble_eq_true rfl)) <| .e [] [2] [3] rfl rfl rfl rfl (op_append (R := rI) Try.underlying22 tok3 (Nat.le_of_ble_eq_true rfl) (.t 1 rfl) (.t 0 rfl) hu43) <| .u [3] rfl rfl (op_lenO Try.underlying22 (.t 0 rfl)) <| .p rfl (op_move .k) <| .nil _ _) (by kernel_rfl) (fun n8 a w hst => ?_)
      replace hst : St M w0 110 [(43, tv (n8 3)), (44, ti ((t41 ++ [(0:Int)]).length : Int)), (45, ti (0:Int)), (10, tv (.slice none 0 0)), (11, tv (.slice none 0 0)), (7, tptr (rI.cs (IntKind.i64.wrap ((c_.length : Int) - (1:Int))))), (8, ti (values_.length : Int)), (0, tsl (rSl rI) c_)] [own rI 3 ([] : List Int) (.slice none 0 0), own rI 3 ([] : List Int) (.slice none 0 0), own rI 3 (t41 ++ [(0:Int)]) (n8 3)] a w := (hst.pick [3, 4, 5, 6, 7, 8, 9, 10])
      refine hK16 _ _ ?_
      try clear hK16 K16
      obtain ⟨e21, he21, h⟩ := bind_some h
      have hJp43 : ∀ (p43 : List Int × List Int) (v44 : Value) (v45 : Value) a w, p43 = e21 → St M w0 110 [(10, tv v45), (11, tv v44)] [own rI 3 p43.1 v44, own rI 3 p43.2 v45] a w → K15 a w := by
        intro p43 v44 v45 a w he hst
        subst he
        refine hK15 _ _ ?_
        try clear hK15 K15
        refine wp_seq_k (fun K46 hK46 => ?_)
        refine wp_reg mixed [] hst (fun _ => .p rfl (op_assign .k) <| .p rfl (op_assign .k) <| .nil _ _) (by kernel_rfl) (fun n18 a w hst => ?_)
        replace hst : St M w0 110 [(14, ti (-1099511627776:Int)), (15, ti (1099511627776:Int)), (10, tv v45), (11, tv v44)] [own rI 3 p43.1 v44, own rI 3 p43.2 v45] a w := (hst.pick [0, 1, 2, 3])
        refine hK46 _ _ ?_
        try clear hK46 K46
        refine wp_seq_k (fun K47 hK47 => ?_)
        refine wp_seq_k (fun K48 hK48 => ?_)
        refine wp_reg mixed [] hst (fun _ => .p rfl (op_move (.t 2 rfl)) <| .u [1] rfl rfl (op_lenO Try.underlying22 (.t 0 rfl)) <| .p rfl (op_gtr (.t 0 rfl) .k) <| .nil _ _) (by kernel_rfl) (fun n19 a w hst => ?_)
        replace hst : St M w0 110 [(95, tv v45), (97, tb (decide ((p43.2.length : Int) > (0:Int)))), (14, ti (-1099511627776:Int)), (15, ti (1099511627776:Int)), (10, tv v45), (11, tv v44)] [own rI 3 p43.1 v44, own rI 3 p43.2 v45] a w := (hst.pick [0, 2, 3, 4, 5, 6])
        refine hK48 _ _ ?_
        try clear hK48 K48
        obtain ⟨p49, hp49, h⟩ := bind_some h
        have hJp49 : ∀ a w, St M w0 110 [(14, ti p49), (15, ti (1099511627776:Int)), (11, tv v44)] [own rI 3 p43.1 v44] a w → K47 a w := by
          intro a w hst
          refine hK47 _ _ ?_
          try clear hK47 K47
          refine wp_seq_k (fun K51 hK51 => ?_)
          refine wp_seq_k (fun K52 hK52 => ?_)
          refine wp_reg mixed [] hst (fun _ => .p rfl (op_move (.t 2 rfl)) <| .u [0] rfl rfl (op_lenO Try.underlying22 (.t 0 rfl)) <| .p rfl (op_gtr (.t 0 rfl) .k) <| .nil _ _) (by kernel_rfl) (fun n21 a w hst => ?_)
          replace hst : St M w0 110 [(100, tv v44), (102, tb (decide ((p43.1.length : Int) > (0:Int)))), (14, ti p49), (15, ti (1099511627776:Int)), (11, tv v44)] [own rI 3 p43.1 v44] a w := (hst.pick [0, 2, 3, 4, 5])
          refine hK52 _ _ ?_
          try clear hK52 K52
          obtain ⟨p53, hp53, h⟩ := bind_some h
          have hJp53 : ∀ a w, St M w0 110 [(15, ti p53), (14, ti p49)] [] a w → K51 a w := by
            intro a w hst
            refine hK51 _ _ ?_
            try clear hK51 K51
            refine wp_seq_k (fun K55 hK55 => ?_)
            refine wp_seq_k (fun K56 hK56 => ?_)
            refine wp_reg mixed [] hst (fun _ => .p rfl (op_move (.t 1 rfl)) <| .p rfl (op_move (.t 1 rfl)) <| .p rfl (op_gtr (.t 1 rfl) (.t 0 rfl)) <| .nil _ _) (by kernel_rfl) (fun n23 a w hst => ?_)
            replace hst : St M w0 110 [(107, tb (decide (p49 > p53))), (15, ti p53), (14, ti p49)] [] a w := (hst.pick [2, 3, 4])
            refine hK56 _ _ ?_
            try clear hK56 K56
            refine wp_test 0 hst rfl (fun b59 => ?_) (fun b59 => ?_)
            · replace h := ite_t b59 h
              refine wp_seq_k (fun K57 hK57 => ?_)
              refine wp_reg mixed [] hst (fun _ => .p rfl (op_assign .k) <| .p rfl (op_assign .k) <| .p rfl (op_assign .k) <| .nil _ _) (by kernel_rfl) (fun n24 a w hst => ?_)
              replace hst : St M w0 110 [(4, ti (0:Int)), (5, ti (0:Int)), (6, ti (14:Int))] [] a w := (hst.pick [0, 1, 2])
              refine hK57 _ _ ?_
              try clear hK57 K57
              refine wp_ret ?_
              obtain rfl := Option.some.inj h
              exact ret_st undef [] hpl hst rfl (.tmp (.t 0 rfl) (.tmp (.t 1 rfl) (.tmp (.t 2 rfl) .nil))) rfl rfl rfl
            · replace h := ite_f b59 h
              refine wp_skip ?_
              refine hK55 _ _ ?_
              try clear hK55 K55
              refine wp_seq_k (fun K58 hK58 => ?_)
              refine wp_reg mixed [] hst (fun _ => .p rfl (op_move (.t 2 rfl)) <| .p rfl (op_move (.t 2 rfl)) <| .p rfl (op_assign (.t 1 rfl)) <| .p rfl (op_assign (.t 1 rfl)) <| .p rfl (op_assign .k) <| .nil _ _) (by kernel_rfl) (fun n25 a w hst => ?_)
              replace hst : St M w0 110 [(4, ti p49), (5, ti p53), (6, ti (0:Int))] [] a w := (hst.pick [2, 3, 4])
              refine hK58 _ _ ?_
              try clear hK58 K58
              refine wp_ret ?_
              obtain rfl := Option.some.inj h
              exact ret_st undef [] hpl hst rfl (.tmp (.t 0 rfl) (.tmp (.t 1 rfl) (.tmp (.t 2 rfl) .nil))) rfl rfl rfl
          replace h := hp53
          clear hp53
          refine wp_test 1 hst rfl (fun b60 => ?_) (fun b60 => ?_)
          · replace h := ite_t b60 h
            obtain ⟨t104, ht104, h⟩ := bind_some h
            refine wp_reg mixed [] hst (fun _ => .p rfl (op_move (.t 4 rfl)) <| .u [0] rfl rfl (op_callFU [own rI 3 p43.1 v44] call71 (Min_ok ht104) (.cons (.own (.t 0 rfl) (.head _)) <| .nil) (fun _ => flat_tv) (fun _ => flatN0 (x := undef))) <| .p rfl (op_assign (.t 0 rfl)) <| .nil _ _) (by kernel_rfl) (fun n22 a w hst => ?_)
            replace hst : St M w0 110 [(103, tv v44), (15, ti t104), (100, tv v44), (14, ti p49), (11, tv v44)] [own rI 3 p43.1 v44] a w := (hst.pick [0, 2, 3, 5, 6])
            obtain rfl := Option.some.inj h
            exact hJp53 _ _ ((hst.pick [1, 3]).selA [] rfl)
          · replace h := ite_f b60 h
            refine wp_skip ?_
            obtain rfl := Option.some.inj h
            exact hJp53 _ _ ((hst.pick [3, 2]).selA [] rfl)
        replace h := hp49
        clear hp49
        refine wp_test 1 hst rfl (fun b61 => ?_) (fun b61 => ?_)
        · replace h := ite_t b61 h
          obtain ⟨t99, ht99, h⟩ := bind_some h
          refine wp_reg mixed [] hst (fun _ => .p rfl (op_move (.t 4 rfl)) <| .u [1] rfl rfl (op_callFU [own rI 3 p43.2 v45] call53 (Max_ok ht99) (.cons (.own (.t 0 rfl) (.head _)) <| .nil) (fun _ => flat_tv) (fun _ => flatN0 (x := undef))) <| .p rfl (op_assign (.t 0 rfl)) <| .nil _ _) (by kernel_rfl) (fun n20 a w hst => ?_)
          replace hst : St M w0 110 [(98, tv v45), (14, ti t99), (95, tv v45), (15, ti (1099511627776:Int)), (10, tv v45), (11, tv v44)] [own rI 3 p43.1 v44, own rI 3 p43.2 v45] a w := (hst.pick [0, 2, 3, 5, 6, 7])
          obtain rfl := Option.some.inj h
          exact hJp49 _ _ ((hst.pick [1, 3, 5]).selA [0] rfl)
        · replace h := ite_f b61 h
          refine wp_skip ?_
          obtain rfl := Option.some.inj h
          exact hJp49 _ _ ((hst.pick [2, 3, 5]).selA [0] rfl)
      refine wp_block ?_
      refine wp_loopK _ (fun (s18 : Int × List Int × List Int) a w => ∃ v19 : Value, ∃ v20 : Value, St M w0 110 [(43, tv (n8 3)), (44, ti ((t41 ++ [(0:Int)]).length : Int)), (45, ti s18.1), (10, tv v20), (11, tv v19), (7, tptr (rI.cs (IntKind.i64.wrap ((c_.length : Int) - (1:Int))))), (8, ti (values_.length : Int)), (0, tsl (rSl rI) c_)] [own rI 3 s18.2.1 v19, own rI 3 s18.2.2 v20, own rI 3 (t41 ++ [(0:Int)]) (n8 3)] a w) _ _ he21 ⟨(.slice none 0 0), (.slice none 0 0), hst.pick [0, 1, 2, 3, 4, 5, 6, 7]⟩ ?_
      clear h
      intro s18 o a w K62 hI h ho hK62
      obtain ⟨v19, v20, hst⟩ := hI
      refine wp_seq_k (fun K63 hK63 => ?_)
      refine wp_reg mixed [] hst (fun _ => .p rfl (op_lss (.t 2 rfl) (.t 1 rfl)) <| .nil _ _) (by kernel_rfl) (fun n9 a w hst => ?_)
      replace hst : St M w0 110 [(46, tb (decide (s18.1 < ((t41 ++ [(0:Int)]).length : Int)))), (43, tv (n8 3)), (44, ti ((t41 ++ [(0:Int)]).length : Int)), (45, ti s18.1), (10, tv v20), (11, tv v19), (7, tptr (rI.cs (IntKind.i64.wrap ((c_.length : Int) - (1:Int))))), (8, ti (values_.length : Int)), (0, tsl (rSl rI) c_)] [own rI 3 s18.2.1 v19, own rI 3 s18.2.2 v20, own rI 3 (t41 ++ [(0:Int)]) (n8 3)] a w := (hst.pick [0, 1, 2, 3, 4, 5, 6, 7, 8])
      refine hK63 _ _ ?_
      try clear hK63 K63
      refine wp_seq_k (fun K64 hK64 => ?_)
      refine wp_test 0 hst rfl (fun b83 => ?_) (fun b83 => ?_)
      · replace h := ite_t b83 h
        refine wp_skip ?_
        refine hK64 _ _ ?_
        try clear hK64 K64
        refine wp_seq_k (fun K65 hK65 => ?_)
        refine wp_block ?_
        refine wp_seq_k (fun K66 hK66 => ?_)
        obtain ⟨t48, ht48, h⟩ := bind_some h
        refine wp_reg mixed [] hst (fun _ => .p rfl (op_move (.t 3 rfl)) <| .u [2] rfl rfl (op_indexOi Try.underlying22 tok3 (.t 2 rfl) (.t 4 rfl) ht48) <| .u [2] rfl rfl (op_loadO tok3 (.t 0 rfl) ht48) <| .p rfl (op_assign (.t 2 rfl)) <| .p rfl (op_assign (.t 1 rfl)) <| .nil _ _) (by kernel_rfl) (fun n10 a w hst => ?_)
        replace hst : St M w0 110 [(12, ti s18.1), (13, ti t48), (43, tv (n8 3)), (44, ti ((t41 ++ [(0:Int)]).length : Int)), (45, ti s18.1), (10, tv v20), (11, tv v19), (7, tptr (rI.cs (IntKind.i64.wrap ((c_.length : Int) - (1:Int))))), (8, ti (values_.length : Int)), (0, tsl (rSl rI) c_)] [own rI 3 s18.2.1 v19, own rI 3 s18.2.2 v20, own rI 3 (t41 ++ [(0:Int)]) (n8 3)] a w := (hst.pick [3, 4, 6, 7, 8, 9, 10, 11, 12, 13])
        refine hK66 _ _ ?_
        try clear hK66 K66
        refine wp_seq_k (fun K67 hK67 => ?_)
        refine wp_seq_k (fun K68 hK68 => ?_)
        refine wp_reg mixed [] hst (fun _ => .p rfl (op_move (.t 0 rfl)) <| .p rfl (op_move (.t 9 rfl)) <| .p rfl (op_eql (.t 1 rfl) (.t 0 rfl)) <| .nil _ _) (by kernel_rfl) (fun n11 a w hst => ?_)
        replace hst : St M w0 110 [(52, tb (s18.1 == (values_.length : Int))), (12, ti s18.1), (13, ti t48), (43, tv (n8 3)), (44, ti ((t41 ++ [(0:Int)]).length : Int)), (45, ti s18.1), (10, tv v20), (11, tv v19), (7, tptr (rI.cs (IntKind.i64.wrap ((c_.length : Int) - (1:Int))))), (8, ti (values_.length : Int)), (0, tsl (rSl rI) c_)] [own rI 3 s18.2.1 v19, own rI 3 s18.2.2 v20, own rI 3 (t41 ++ [(0:Int)]) (n8 3)] a w := (hst.pick [2, 3, 4, 5, 6, 7, 8, 9, 10, 11, 12])
        refine hK68 _ _ ?_
        try clear hK68 K68
        obtain ⟨p69, hp69, h⟩ := bind_some h
        have hJp69 : ∀ a w, St M w0 110 [(12, ti p69), (13, ti t48), (43, tv (n8 3)), (44, ti ((t41 ++ [(0:Int)]).length : Int)), (45, ti s18.1), (10, tv v20), (11, tv v19), (7, tptr (rI.cs (IntKind.i64.wrap ((c_.length : Int) - (1:Int))))), (8, ti (values_.length : Int)), (0, tsl (rSl rI) c_)] [own rI 3 s18.2.1 v19, own rI 3 s18.2.2 v20, own rI 3 (t41 ++ [(0:Int)]) (n8 3)] a w → K67 a w := by
          intro a w hst
          refine hK67 _ _ ?_
          try clear hK67 K67
          refine wp_seq_k (fun K71 hK71 => ?_)
          refine wp_seq_k (fun K72 hK72 => ?_)
          obtain ⟨t56, ht56, h⟩ := bind_some h
          obtain ⟨t59, ht59, h⟩ := bind_some h
          refine wp_reg mixed [] hst (fun _ => .p rfl (op_move (.t 9 rfl)) <| .p rfl (op_move (.t 1 rfl)) <| .p rfl (op_index Try.underlying26 tok22 (.t 1 rfl) (.t 0 rfl) ht56) <| .p rfl (op_load tok22 (.t 0 rfl)) <| .p rfl (op_move (.t 12 rfl)) <| .p rfl (op_index Try.underlying22 tok3 (.t 1 rfl) (.t 0 rfl) ht59) <| .p rfl (op_load tok3 (.t 0 rfl)) <| .p rfl (op_lss (.t 0 rfl) .k) <| .nil _ _) (by kernel_rfl) (fun n13 a w hst => ?_)
          replace hst : St M w0 110 [(61, tb (decide (t59 < (1099511627776:Int)))), (12, ti p69), (13, ti t48), (43, tv (n8 3)), (44, ti ((t41 ++ [(0:Int)]).length : Int)), (45, ti s18.1), (10, tv v20), (11, tv v19), (7, tptr (rI.cs (IntKind.i64.wrap ((c_.length : Int) - (1:Int))))), (8, ti (values_.length : Int)), (0, tsl (rSl rI) c_)] [own rI 3 s18.2.1 v19, own rI 3 s18.2.2 v20, own rI 3 (t41 ++ [(0:Int)]) (n8 3)] a w := (hst.pick [7, 8, 9, 10, 11, 12, 13, 14, 15, 16, 17])
          refine hK72 _ _ ?_
          try clear hK72 K72
          obtain ⟨p73, hp73, h⟩ := bind_some h
          have hJp73 : ∀ (v75 : Value) a w, St M w0 110 [(10, tv v75), (12, ti p69), (13, ti t48), (43, tv (n8 3)), (44, ti ((t41 ++ [(0:Int)]).length : Int)), (45, ti s18.1), (11, tv v19), (7, tptr (rI.cs (IntKind.i64.wrap ((c_.length : Int) - (1:Int))))), (8, ti (values_.length : Int)), (0, tsl (rSl rI) c_)] [own rI 3 s18.2.1 v19, own rI 3 (t41 ++ [(0:Int)]) (n8 3), own rI 3 p73 v75] a w → K71 a w := by
            intro v75 a w hst
            refine hK71 _ _ ?_
            try clear hK71 K71
            refine wp_seq_k (fun K76 hK76 => ?_)
            obtain ⟨t76, ht76, h⟩ := bind_some h
            obtain ⟨t79, ht79, h⟩ := bind_some h
            refine wp_reg mixed [] hst (fun _ => .p rfl (op_move (.t 9 rfl)) <| .p rfl (op_move (.t 9 rfl)) <| .p rfl (op_index Try.underlying26 tok22 (.t 1 rfl) (.t 0 rfl) ht76) <| .p rfl (op_load tok22 (.t 0 rfl)) <| .p rfl (op_move (.t 5 rfl)) <| .p rfl (op_index Try.underlying22 tok3 (.t 1 rfl) (.t 0 rfl) ht79) <| .p rfl (op_load tok3 (.t 0 rfl)) <| .p rfl (op_lss (.t 0 rfl) .k) <| .nil _ _) (by kernel_rfl) (fun n15 a w hst => ?_)
            replace hst : St M w0 110 [(81, tb (decide (t79 < (1099511627776:Int)))), (10, tv v75), (12, ti p69), (13, ti t48), (43, tv (n8 3)), (44, ti ((t41 ++ [(0:Int)]).length : Int)), (45, ti s18.1), (11, tv v19), (7, tptr (rI.cs (IntKind.i64.wrap ((c_.length : Int) - (1:Int))))), (8, ti (values_.length : Int)), (0, tsl (rSl rI) c_)] [own rI 3 s18.2.1 v19, own rI 3 (t41 ++ [(0:Int)]) (n8 3), own rI 3 p73 v75] a w := (hst.pick [7, 8, 9, 10, 11, 12, 13, 14, 15, 16, 17])
            refine hK76 _ _ ?_
            try clear hK76 K76
            obtain ⟨p77, hp77, h⟩ := bind_some h
            have hJp77 : ∀ (v79 : Value) a w, St M w0 110 [(11, tv v79), (10, tv v75), (43, tv (n8 3)), (44, ti ((t41 ++ [(0:Int)]).length : Int)), (45, ti s18.1), (7, tptr (rI.cs (IntKind.i64.wrap ((c_.length : Int) - (1:Int))))), (8, ti (values_.length : Int)), (0, tsl (rSl rI) c_)] [own rI 3 (t41 ++ [(0:Int)]) (n8 3), own rI 3 p73 v75, own rI 3 p77 v79] a w → K65 a w := by
              intro v79 a w hst
              refine hK65 _ _ ?_
              try clear hK65 K65
              refine wp_reg mixed [] hst (fun _ => .p rfl (op_add (.t 4 rfl) .k) <| .p rfl (op_move (.t 0 rfl)) <| .nil _ _) (by kernel_rfl) (fun n17 a w hst => ?_)
              replace hst : St M w0 110 [(45, ti (IntKind.i64.wrap (s18.1 + (1:Int)))), (11, tv v79), (10, tv v75), (43, tv (n8 3)), (44, ti ((t41 ++ [(0:Int)]).length : Int)), (7, tptr (rI.cs (IntKind.i64.wrap ((c_.length : Int) - (1:Int))))), (8, ti (values_.length : Int)), (0, tsl (rSl rI) c_)] [own rI 3 (t41 ++ [(0:Int)]) (n8 3), own rI 3 p73 v75, own rI 3 p77 v79] a w := (hst.pick [1, 2, 3, 4, 5, 6, 7, 8])
              exact hK62 _ _ _ (Option.some.inj h).symm ⟨v79, v75, (hst.pick [3, 4, 0, 2, 1, 5, 6, 7]).selA [2, 1, 0] rfl⟩
            replace h := hp77
            clear hp77
            refine wp_test 0 hst rfl (fun b80 => ?_) (fun b80 => ?_)
            · replace h := ite_t b80 h
              obtain ⟨t86, ht86, h⟩ := bind_some h
              obtain ⟨t89, ht89, h⟩ := bind_some h
              obtain ⟨u93, hu93, h⟩ := bind_some h
              refine wp_reg mixed [v1 11 (fun v0 => own rI 3 (s18.2.1 ++ [(IntKind.i64.wrap (t48 + t89))]) v0)] hst (fun _ => .p rfl (op_move (.t 7 rfl)) <| .p rfl (op_move (.t 4 rfl)) <| .p rfl (op_move (.t 12 rfl)) <| .p rfl (op_move (.t 12 rfl)) <| .p rfl (op_index Try.underlying26 tok22 (.t 1 rfl) (.t 0 rfl) ht86) <| .p rfl (op_load tok22 (.t 0 rfl)) <| .p rfl (op_move (.t 8 rfl)) <| .p rfl (op_index Try.underlying22 tok3 (.t 1 rfl) (.t 0 rfl) ht89) <| .p rfl (op_load tok3 (.t 0 rfl)) <| .p rfl (op_add (.t 7 rfl) (.t 0 rfl)) <| .p rfl (op_buildSl (R := rI) (us := [(IntKind.i64.wrap (t48 + t89))]) Try.underlying22 tok3 (.cons (.t 0 rfl) <| .nil _) rfl (Nat.le_of_ble_eq_true rfl)) <| .e [] [0] [3] rfl rfl rfl rfl (op_append (R := rI) Try.underlying22 tok3 (Nat.le_of_ble_eq_true rfl) (.t 10 rfl) (.t 0 rfl) hu93) <| .ud (f := fun v => tv v) 11 rfl [] rfl rfl (op_assign (.t 0 rfl)) <| .nil _ _) (by kernel_rfl) (fun n16 a w hst => ?_)
              replace hst : St M w0 110 [(93, tv (n16 11)), (11, tv (n16 11)), (10, tv v75), (43, tv (n8 3)), (44, ti ((t41 ++ [(0:Int)]).length : Int)), (45, ti s18.1), (7, tptr (rI.cs (IntKind.i64.wrap ((c_.length : Int) - (1:Int))))), (8, ti (values_.length : Int)), (0, tsl (rSl rI) c_)] [own rI 3 (t41 ++ [(0:Int)]) (n8 3), own rI 3 p73 v75, own rI 3 (s18.2.1 ++ [(IntKind.i64.wrap (t48 + t89))]) (n16 11)] a w := (hst.pick [11, 12, 14, 17, 18, 19, 20, 21, 22])
              obtain rfl := Option.some.inj h
              exact hJp77 (n16 11) _ _ (hst.pick [1, 2, 3, 4, 5, 6, 7, 8])
            · replace h := ite_f b80 h
              refine wp_skip ?_
              obtain rfl := Option.some.inj h
              exact hJp77 v19 _ _ ((hst.pick [7, 1, 4, 5, 6, 8, 9, 10]).selA [1, 2, 0] rfl)
          replace h := hp73
          clear hp73
          refine wp_test 0 hst rfl (fun b81 => ?_) (fun b81 => ?_)
          · replace h := ite_t b81 h
            obtain ⟨t66, ht66, h⟩ := bind_some h
            obtain ⟨t69, ht69, h⟩ := bind_some h
            obtain ⟨u73, hu73, h⟩ := bind_some h
            refine wp_reg mixed [v1 11 (fun v0 => own rI 3 (s18.2.2 ++ [(IntKind.i64.wrap (t48 - t69))]) v0)] hst (fun _ => .p rfl (op_move (.t 6 rfl)) <| .p rfl (op_move (.t 3 rfl)) <| .p rfl (op_move (.t 12 rfl)) <| .p rfl (op_move (.t 4 rfl)) <| .p rfl (op_index Try.underlying26 tok22 (.t 1 rfl) (.t 0 rfl) ht66) <| .p rfl (op_load tok22 (.t 0 rfl)) <| .p rfl (op_move (.t 15 rfl)) <| .p rfl (op_index Try.underlying22 tok3 (.t 1 rfl) (.t 0 rfl) ht69) <| .p rfl (op_load tok3 (.t 0 rfl)) <| .p rfl (op_sub (.t 7 rfl) (.t 0 rfl)) <| .p rfl (op_buildSl (R := rI) (us := [(IntKind.i64.wrap (t48 - t69))]) Try.underlying22 tok3 (.cons (.t 0 rfl) <| .nil _) rfl (Nat.le_of_ble_eq_true rfl)) <| .e [] [1] [3] rfl rfl rfl rfl (op_append (R := rI) Try.underlying22 tok3 (Nat.le_of_ble_eq_true rfl) (.t 10 rfl) (.t 0 rfl) hu73) <| .ud (f := fun v => tv v) 11 rfl [] rfl rfl (op_assign (.t 0 rfl)) <| .nil _ _) (by kernel_rfl) (fun n14 a w hst => ?_)
            replace hst : St M w0 110 [(73, tv (n14 11)), (10, tv (n14 11)), (12, ti p69), (13, ti t48), (43, tv (n8 3)), (44, ti ((t41 ++ [(0:Int)]).length : Int)), (45, ti s18.1), (11, tv v19), (7, tptr (rI.cs (IntKind.i64.wrap ((c_.length : Int) - (1:Int))))), (8, ti (values_.length : Int)), (0, tsl (rSl rI) c_)] [own rI 3 s18.2.1 v19, own rI 3 (t41 ++ [(0:Int)]) (n8 3), own rI 3 (s18.2.2 ++ [(IntKind.i64.wrap (t48 - t69))]) (n14 11)] a w := (hst.pick [11, 12, 14, 15, 16, 17, 18, 19, 20, 21, 22])
            obtain rfl := Option.some.inj h
            exact hJp73 (n14 11) _ _ (hst.pick [1, 2, 3, 4, 5, 6, 7, 8, 9, 10])
          · replace h := ite_f b81 h
            refine wp_skip ?_
            obtain rfl := Option.some.inj h
            exact hJp73 v20 _ _ ((hst.pick [6, 1, 2, 3, 4, 5, 7, 8, 9, 10]).selA [0, 2, 1] rfl)
        replace h := hp69
        clear hp69
        refine wp_test 0 hst rfl (fun b82 => ?_) (fun b82 => ?_)
        · replace h := ite_t b82 h
          refine wp_reg mixed [] hst (fun _ => .p rfl (op_load tok3 (.t 8 rfl)) <| .p rfl (op_assign (.t 0 rfl)) <| .nil _ _) (by kernel_rfl) (fun n12 a w hst => ?_)
          replace hst : St M w0 110 [(12, ti (IntKind.i64.wrap ((c_.length : Int) - (1:Int)))), (13, ti t48), (43, tv (n8 3)), (44, ti ((t41 ++ [(0:Int)]).length : Int)), (45, ti s18.1), (10, tv v20), (11, tv v19), (7, tptr (rI.cs (IntKind.i64.wrap ((c_.length : Int) - (1:Int))))), (8, ti (values_.length : Int)), (0, tsl (rSl rI) c_)] [own rI 3 s18.2.1 v19, own rI 3 s18.2.2 v20, own rI 3 (t41 ++ [(0:Int)]) (n8 3)] a w := (hst.pick [1, 3, 4, 5, 6, 7, 8, 9, 10, 11])
          obtain rfl := Option.some.inj h
          exact hJp69 _ _ (hst.pick [0, 1, 2, 3, 4, 5, 6, 7, 8, 9])
        · replace h := ite_f b82 h
          refine wp_skip ?_
          obtain rfl := Option.some.inj h
          exact hJp69 _ _ (hst.pick [1, 2, 3, 4, 5, 6, 7, 8, 9, 10])
      · replace h := ite_f b83 h
        refine wp_exit ?_
        exact hJp43 _ v19 v20 _ _ (ho _ (Option.some.inj h).symm) ((hst.pick [4, 5]).selA [0, 1] rfl)

/- diorama/dioramaref14.Range -/
noncomputable def fRangeR (c_ : (List (List Int))) (values_ : (List Int)) : Option (Int × Int × Int) := (if ((decide ((IntKind.i64.wrap ((c_.length : Int) - (1:Int))) < (0:Int))) || (decide ((IntKind.i64.wrap ((c_.length : Int) - (1:Int))) > (10:Int)))) = true then (some ((0:Int), (0:Int), (1:Int))) else (tailrec (fun (s8 : Int) => ((if (decide (s8 ≤ (IntKind.i64.wrap ((c_.length : Int) - (1:Int))))) = true then (idx c_ s8).bind fun t35 => (if ((t35.length : Int) != (IntKind.i64.wrap ((IntKind.i64.wrap ((c_.length : Int) - (1:Int))) + (1:Int)))) = true then (some (.inr (.inr ((0:Int), (0:Int), (1:Int))))) else (tailrec (fun (s173 : Int) => ((if (decide (s173 ≤ (IntKind.i64.wrap ((c_.length : Int) - (1:Int))))) = true then (idx c_ s8).bind fun t48 => (idx t48 s173).bind fun t51 => (opt ((decide (t51 < (-1099511627776:Int))) == false) (idx c_ s8) default).bind fun t57 => (opt ((decide (t51 < (-1099511627776:Int))) == false) (idx t57 s173) default).bind fun t60 => (if ((decide (t51 < (-1099511627776:Int))) || (decide (t60 > (1099511627776:Int)))) = true then (some (.inr (.inr ((0:Int), (0:Int), (1:Int))))) else (some (.inl (IntKind.i64.wrap (s173 + (1:Int)))))) else (some (.inr (.inl ())))) : Option ((Int) ⊕ ((Unit) ⊕ (Int × Int × Int))))) (0:Int)).bind fun (e174 : (Unit) ⊕ (Int × Int × Int)) => (match e174 with | .inl p182 => (some (.inl (IntKind.i64.wrap (s8 + (1:Int))))) | .inr p183 => (some (.inr (.inr (p183.1, p183.2.1, p183.2.2)))))) else (some (.inr (.inl ())))) : Option ((Int) ⊕ ((Unit) ⊕ (Int × Int × Int))))) (0:Int)).bind fun (e9 : (Unit) ⊕ (Int × Int × Int)) => (match e9 with | .inl p38 => (tailrec (fun (s42 : Int) => ((if (decide (s42 < (values_.length : Int))) = true then (idx values_ s42).bind fun t72 => (opt ((decide (t72 < (-1099511627776:Int))) == false) (idx values_ s42) default).bind fun t78 => (if ((decide (t72 < (-1099511627776:Int))) || (decide (t78 > (1099511627776:Int)))) = true then (some (.inr (.inr ((0:Int), (0:Int), (1:Int))))) else (some (.inl (IntKind.i64.wrap (s42 + (1:Int)))))) else (some (.inr (.inl ())))) : Option ((Int) ⊕ ((Unit) ⊕ (Int × Int × Int))))) (0:Int)).bind fun (e43 : (Unit) ⊕ (Int × Int × Int)) => (match e43 with | .inl p51 => (if (decide ((values_.length : Int) ≥ (IntKind.i64.wrap ((c_.length : Int) - (1:Int))))) = true then (some ((0:Int), (0:Int), (6:Int))) else (tailrec (fun (s63 : Int × Bool × Bool × Int × Int) => ((if (decide (s63.1 ≤ (values_.length : Int))) = true then ((if (decide (s63.1 < (values_.length : Int))) = true then (idx values_ s63.1).bind fun t99 => (some (t99, s63.1)) else (some ((0:Int), (IntKind.i64.wrap ((c_.length : Int) - (1:Int))))))).bind fun (p121 : Int × Int) => (idx c_ p121.2).bind fun t103 => (idx t103 (values_.length : Int)).bind fun t106 => ((if (decide (t106 < (1099511627776:Int))) = true then (opt ((!s63.2.2.1) == false) (idx c_ p121.2) default).bind fun t115 => (opt ((!s63.2.2.1) == false) (idx t115 (values_.length : Int)) default).bind fun t118 => ((if ((!s63.2.2.1) || (decide ((IntKind.i64.wrap (p121.1 - t118)) > s63.2.2.2.2))) = true then (idx c_ p121.2).bind fun t127 => (idx t127 (values_.length : Int)).bind fun t130 => (some (IntKind.i64.wrap (p121.1 - t130))) else (some s63.2.2.2.2))).bind fun (p149 : Int) => (some (true, p149)) else (some (s63.2.2.1, s63.2.2.2.2)))).bind fun (p126 : Bool × Int) => (idx c_ (values_.length : Int)).bind fun t135 => (idx t135 p121.2).bind fun t138 => ((if (decide (t138 < (1099511627776:Int))) = true then (opt ((!s63.2.1) == false) (idx c_ (values_.length : Int)) default).bind fun t147 => (opt ((!s63.2.1) == false) (idx t147 p121.2) default).bind fun t150 => ((if ((!s63.2.1) || (decide ((IntKind.i64.wrap (p121.1 + t150)) < s63.2.2.2.1))) = true then (idx c_ (values_.length : Int)).bind fun t159 => (idx t159 p121.2).bind fun t162 => (some (IntKind.i64.wrap (p121.1 + t162))) else (some s63.2.2.2.1))).bind fun (p143 : Int) => (some (true, p143)) else (some (s63.2.1, s63.2.2.2.1)))).bind fun (p134 : Bool × Int) => (some (.inl ((IntKind.i64.wrap (s63.1 + (1:Int))), p134.1, p126.1, p134.2, p126.2))) else (some (.inr (s63.2.2.2.1, s63.2.2.2.2)))) : Option ((Int × Bool × Bool × Int × Int) ⊕ ((Int × Int))))) ((0:Int), false, false, (1099511627776:Int), (-1099511627776:Int))).bind fun (p107 : (Int × Int)) => (if (decide (p107.2 > p107.1)) = true then (some ((0:Int), (0:Int), (14:Int))) else (some (p107.2, p107.1, (0:Int))))) | .inr p52 => (some (p52.1, p52.2.1, p52.2.2))) | .inr p39 => (some (p39.1, p39.2.1, p39.2.2))))
set_option maxRecDepth 100000 in
set_option maxHeartbeats 4000000 in
theorem RangeR_ok {c_ : (List (List Int))} {values_ : (List Int)} {r : Int × Int × Int} (h : fRangeR c_ values_ = some r) : FnOk Try.prog 39 [tsl (rSl rI) c_, tsl rI values_] [] (fun _ => []) (fun _ => ttup [ti r.1, ti r.2.1, ti r.2.2]) := by
  unfold fRangeR at h
  refine FnOk.enter Try.func39 rfl Try.ntmps39 (Nat.le_of_ble_eq_true rfl) (fun M0 M w0 a hpl hst => ?_)
  replace hst : St M w0 170 [(0, tsl (rSl rI) c_), (1, tsl rI values_)] [] a w0 := hst
  refine wp_seq_k (fun K1 hK1 => ?_)
  refine wp_reg mixed [] hst (fun _ => .p rfl (op_assign .k) <| .p rfl (op_assign .k) <| .p rfl (op_assign .k) <| .nil _ _) (by kernel_rfl) (fun n0 a w hst => ?_)
  replace hst : St M w0 170 [(0, tsl (rSl rI) c_), (1, tsl rI values_)] [] a w := (hst.pick [3, 4])
  refine hK1 _ _ ?_
  try clear hK1 K1
  refine wp_seq_k (fun K2 hK2 => ?_)
  refine wp_reg mixed [] hst (fun _ => .p rfl (op_move (.t 0 rfl)) <| .p rfl (op_len Try.underlying26 (.t 0 rfl)) <| .p rfl (op_sub (.t 0 rfl) .k) <| .p rfl (op_assign (.t 0 rfl)) <| .nil _ _) (by kernel_rfl) (fun n1 a w hst => ?_)
  replace hst : St M w0 170 [(7, ti (IntKind.i64.wrap ((c_.length : Int) - (1:Int)))), (0, tsl (rSl rI) c_), (1, tsl rI values_)] [] a w := (hst.pick [3, 4, 5])
  refine hK2 _ _ ?_
  try clear hK2 K2
  refine wp_seq_k (fun K3 hK3 => ?_)
  refine wp_seq_k (fun K4 hK4 => ?_)
  refine wp_reg mixed [] hst (fun _ => .p rfl (op_move (.t 0 rfl)) <| .p rfl (op_lss (.t 0 rfl) .k) <| .p rfl (op_move (.t 0 rfl)) <| .g rfl rfl (.b 0 rfl) (fun _ => op_move (.t 3 rfl)) <| .g rfl rfl (.b 1 rfl) (fun hc => op_gtr (.cond (.t 0 rfl) hc) .k) <| .p rfl (op_or (.t 2 rfl) (fun hp => (.cond (.t 0 rfl) (beqF hp)))) <| .nil _ _) (by kernel_rfl) (fun n2 a w hst => ?_)
  replace hst : St M w0 170 [(27, tb ((decide ((IntKind.i64.wrap ((c_.length : Int) - (1:Int))) < (0:Int))) || (decide ((IntKind.i64.wrap ((c_.length : Int) - (1:Int))) > (10:Int))))), (7, ti (IntKind.i64.wrap ((c_.length : Int) - (1:Int)))), (0, tsl (rSl rI) c_), (1, tsl rI values_)] [] a w := (hst.pick [5, 6, 7, 8])
  refine hK4 _ _ ?_
  try clear hK4 K4
  refine wp_test 0 hst rfl (fun b194 => ?_) (fun b194 => ?_)
  · replace h := ite_t b194 h
    refine wp_seq_k (fun K5 hK5 => ?_)
    refine wp_reg mixed [] hst (fun _ => .p rfl (op_assign .k) <| .p rfl (op_assign .k) <| .p rfl (op_assign .k) <| .nil _ _) (by kernel_rfl) (fun n3 a w hst => ?_)
    replace hst : St M w0 170 [(4, ti (0:Int)), (5, ti (0:Int)), (6, ti (1:Int))] [] a w := (hst.pick [0, 1, 2])
    refine hK5 _ _ ?_
    try clear hK5 K5
    refine wp_ret ?_
    obtain rfl := Option.some.inj h
    exact ret_st undef [] hpl hst rfl (.tmp (.t 0 rfl) (.tmp (.t 1 rfl) (.tmp (.t 2 rfl) .nil))) rfl rfl rfl
  · replace h := ite_f b194 h
    refine wp_skip ?_
    refine hK3 _ _ ?_
    try clear hK3 K3
    refine wp_seq_k (fun K6 hK6 => ?_)
    refine wp_seq_k (fun K7 hK7 => ?_)
    refine wp_reg mixed [] hst (fun _ => .p rfl (op_assign .k) <| .nil _ _) (by kernel_rfl) (fun n4 a w hst => ?_)
    replace hst : St M w0 170 [(8, ti (0:Int)), (7, ti (IntKind.i64.wrap ((c_.length : Int) - (1:Int)))), (0, tsl (rSl rI) c_), (1, tsl rI values_)] [] a w := (hst.pick [0, 2, 3, 4])
    refine hK7 _ _ ?_
    try clear hK7 K7
    obtain ⟨e9, he9, h⟩ := bind_some h
    have hJp38 : ∀ (p38 : Unit) a w, (.inl p38) = e9 → St M w0 170 [(7, ti (IntKind.i64.wrap ((c_.length : Int) - (1:Int)))), (0, tsl (rSl rI) c_), (1, tsl rI values_)] [] a w → K6 a w := by
      intro p38 a w he hst
      subst he
      simp only at h
      refine hK6 _ _ ?_
      try clear hK6 K6
      refine wp_seq_k (fun K40 hK40 => ?_)
      refine wp_seq_k (fun K41 hK41 => ?_)
      refine wp_reg mixed [] hst (fun _ => .p rfl (op_assign .k) <| .nil _ _) (by kernel_rfl) (fun n14 a w hst => ?_)
      replace hst : St M w0 170 [(10, ti (0:Int)), (7, ti (IntKind.i64.wrap ((c_.length : Int) - (1:Int)))), (0, tsl (rSl rI) c_), (1, tsl rI values_)] [] a w := (hst.pick [0, 1, 2, 3])
      refine hK41 _ _ ?_
      try clear hK41 K41
      obtain ⟨e43, he43, h⟩ := bind_some h
      have hJp51 : ∀ (p51 : Unit) a w, (.inl p51) = e43 → St M w0 170 [(7, ti (IntKind.i64.wrap ((c_.length : Int) - (1:Int)))), (0, tsl (rSl rI) c_), (1, tsl rI values_)] [] a w → K40 a w := by
        intro p51 a w he hst
        subst he
        simp only at h
        refine hK40 _ _ ?_
        try clear hK40 K40
        refine wp_seq_k (fun K53 hK53 => ?_)
        refine wp_reg mixed [] hst (fun _ => .p rfl (op_move (.t 2 rfl)) <| .p rfl (op_len Try.underlying22 (.t 0 rfl)) <| .p rfl (op_assign (.t 0 rfl)) <| .nil _ _) (by kernel_rfl) (fun n19 a w hst => ?_)
        replace hst : St M w0 170 [(11, ti (values_.length : Int)), (7, ti (IntKind.i64.wrap ((c_.length : Int) - (1:Int)))), (0, tsl (rSl rI) c_), (1, tsl rI values_)] [] a w := (hst.pick [2, 3, 4, 5])
        refine hK53 _ _ ?_
        try clear hK53 K53
        refine wp_seq_k (fun K54 hK54 => ?_)
        refine wp_seq_k (fun K55 hK55 => ?_)
        refine wp_reg mixed [] hst (fun _ => .p rfl (op_move (.t 0 rfl)) <| .p rfl (op_move (.t 2 rfl)) <| .p rfl (op_geq (.t 1 rfl) (.t 0 rfl)) <| .nil _ _) (by kernel_rfl) (fun n20 a w hst => ?_)
        replace hst : St M w0 170 [(86, tb (decide ((values_.length : Int) ≥ (IntKind.i64.wrap ((c_.length : Int) - (1:Int)))))), (11, ti (values_.length : Int)), (7, ti (IntKind.i64.wrap ((c_.length : Int) - (1:Int)))), (0, tsl (rSl rI) c_), (1, tsl rI values_)] [] a w := (hst.pick [2, 3, 4, 5, 6])
        refine hK55 _ _ ?_
        try clear hK55 K55
        refine wp_test 0 hst rfl (fun b156 => ?_) (fun b156 => ?_)
        · replace h := ite_t b156 h
          refine wp_seq_k (fun K56 hK56 => ?_)
          refine wp_reg mixed [] hst (fun _ => .p rfl (op_assign .k) <| .p rfl (op_assign .k) <| .p rfl (op_assign .k) <| .nil _ _) (by kernel_rfl) (fun n21 a w hst => ?_)
          replace hst : St M w0 170 [(4, ti (0:Int)), (5, ti (0:Int)), (6, ti (6:Int))] [] a w := (hst.pick [0, 1, 2])
          refine hK56 _ _ ?_
          try clear hK56 K56
          refine wp_ret ?_
          obtain rfl := Option.some.inj h
          exact ret_st undef [] hpl hst rfl (.tmp (.t 0 rfl) (.tmp (.t 1 rfl) (.tmp (.t 2 rfl) .nil))) rfl rfl rfl
        · replace h := ite_f b156 h
          refine wp_skip ?_
          refine hK54 _ _ ?_
          try clear hK54 K54
          refine wp_seq_k (fun K57 hK57 => ?_)
          refine wp_reg mixed [] hst (fun _ => .p rfl (op_assign .k) <| .nil _ _) (by kernel_rfl) (fun n22 a w hst => ?_)
          replace hst : St M w0 170 [(12, ti (-1099511627776:Int)), (11, ti (values_.length : Int)), (7, ti (IntKind.i64.wrap ((c_.length : Int) - (1:Int)))), (0, tsl (rSl rI) c_), (1, tsl rI values_)] [] a w := (hst.pick [0, 2, 3, 4, 5])
          refine hK57 _ _ ?_
          try clear hK57 K57
          refine wp_seq_k (fun K58 hK58 => ?_)
          refine wp_reg mixed [] hst (fun _ => .p rfl (op_assign .k) <| .nil _ _) (by kernel_rfl) (fun n23 a w hst => ?_)
          replace hst : St M w0 170 [(13, ti (1099511627776:Int)), (12, ti (-1099511627776:Int)), (11, ti (values_.length : Int)), (7, ti (IntKind.i64.wrap ((c_.length : Int) - (1:Int)))), (0, tsl (rSl rI) c_), (1, tsl rI values_)] [] a w := (hst.pick [0, 1, 2, 3, 4, 5])
          refine hK58 _ _ ?_
          try clear hK58 K58
          refine wp_seq_k (fun K59 hK59 => ?_)
          refine wp_reg mixed [] hst (fun _ => .p rfl (op_assign .k) <| .nil _ _) (by kernel_rfl) (fun n24 a w hst => ?_)
          replace hst : St M w0 170 [(14, tb false), (13, ti (1099511627776:Int)), (12, ti (-1099511627776:Int)), (11, ti (values_.length : Int)), (7, ti (IntKind.i64.wrap ((c_.length : Int) - (1:Int)))), (0, tsl (rSl rI) c_), (1, tsl rI values_)] [] a w := (hst.pick [0, 1, 2, 3, 4, 5, 6])
          refine hK59 _ _ ?_
          try clear hK59 K59
          refine wp_seq_k (fun K60 hK60 => ?_)
          refine wp_reg mixed [] hst (fun _ => .p rfl (op_assign .k) <| .nil _ _) (by kernel_rfl) (fun n25 a w hst => ?_)
          replace hst : St M w0 170 [(15, tb false), (14, tb false), (13, ti (1099511627776:Int)), (12, ti (-1099511627776:Int)), (11, ti (values_.length : Int)), (7, ti (IntKind.i64.wrap ((c_.length : Int) - (1:Int)))), (0, tsl (rSl rI) c_), (1, tsl rI values_)] [] a w := (hst.pick [0, 1, 2, 3, 4, 5, 6, 7])
          refine hK60 _ _ ?_
          try clear hK60 K60
          refine wp_seq_k (fun K61 hK61 => ?_)
          refine wp_seq_k (fun K62 hK62 => ?_)
          refine wp_reg mixed [] hst (fun _ => .p rfl (op_assign .k) <| .nil _ _) (by kernel_rfl) (fun n26 a w hst => ?_)
          replace hst : St M w0 170 [(16, ti (0:Int)), (15, tb false), (14, tb false), (13, ti (1099511627776:Int)), (12, ti (-1099511627776:Int)), (11, ti (values_.length : Int)), (7, ti (IntKind.i64.wrap ((c_.length : Int) - (1:Int)))), (0, tsl (rSl rI) c_), (1, tsl rI values_)] [] a w := (hst.pick [0, 1, 2, 3, 4, 5, 6, 7, 8])
          refine hK62 _ _ ?_
          try clear hK62 K62
          obtain ⟨e64, he64, h⟩ := bind_some h
          have hJp107 : ∀ (p107 : Int × Int) a w, p107 = e64 → St M w0 170 [(13, ti p107.1), (12, ti p107.2)] [] a w → K61 a w := by
            intro p107 a w he hst
            subst he
            refine hK61 _ _ ?_
            try clear hK61 K61
            refine wp_seq_k (fun K108 hK108 => ?_)
            refine wp_seq_k (fun K109 hK109 => ?_)
            refine wp_reg mixed [] hst (fun _ => .p rfl (op_move (.t 1 rfl)) <| .p rfl (op_move (.t 1 rfl)) <| .p rfl (op_gtr (.t 1 rfl) (.t 0 rfl)) <| .nil _ _) (by kernel_rfl) (fun n42 a w hst => ?_)
            replace hst : St M w0 170 [(167, tb (decide (p107.2 > p107.1))), (13, ti p107.1), (12, ti p107.2)] [] a w := (hst.pick [2, 3, 4])
            refine hK109 _ _ ?_
            try clear hK109 K109
            refine wp_test 0 hst rfl (fun b112 => ?_) (fun b112 => ?_)
            · replace h := ite_t b112 h
              refine wp_seq_k (fun K110 hK110 => ?_)
              refine wp_reg mixed [] hst (fun _ => .p rfl (op_assign .k) <| .p rfl (op_assign .k) <| .p rfl (op_assign .k) <| .nil _ _) (by kernel_rfl) (fun n43 a w hst => ?_)
              replace hst : St M w0 170 [(4, ti (0:Int)), (5, ti (0:Int)), (6, ti (14:Int))] [] a w := (hst.pick [0, 1, 2])
              refine hK110 _ _ ?_
              try clear hK110 K110
              refine wp_ret ?_
              obtain rfl := Option.some.inj h
              exact ret_st undef [] hpl hst rfl (.tmp (.t 0 rfl) (.tmp (.t 1 rfl) (.tmp (.t 2 rfl) .nil))) rfl rfl rfl
            · replace h := ite_f b112 h
              refine wp_skip ?_
              refine hK108 _ _ ?_
              try clear hK108 K108
              refine wp_seq_k (fun K111 hK111 => ?_)
              refine wp_reg mixed [] hst (fun _ => .p rfl (op_move (.t 2 rfl)) <| .p rfl (op_move (.t 2 rfl)) <| .p rfl (op_assign (.t 1 rfl)) <| .p rfl (op_assign (.t 1 rfl)) <| .p rfl (op_assign .k) <| .nil _ _) (by kernel_rfl) (fun n44 a w hst => ?_)
              replace hst : St M w0 170 [(4, ti p107.2), (5, ti p107.1), (6, ti (0:Int))] [] a w := (hst.pick [2, 3, 4])
              refine hK111 _ _ ?_
              try clear hK111 K111
              refine wp_ret ?_
              obtain rfl := Option.some.inj h
              exact ret_st undef [] hpl hst rfl (.tmp (.t 0 rfl) (.tmp (.t 1 rfl) (.tmp (.t 2 rfl) .nil))) rfl rfl rfl
          refine wp_block ?_
          refine wp_loopK _ (fun (s63 : Int × Bool × Bool × Int × Int) a w => St M w0 170 [(16, ti s63.1), (15, tb s63.2.1), (14, tb s63.2.2.1), (13, ti s63.2.2.2.1), (12, ti s63.2.2.2.2), (11, ti (values_.length : Int)), (7, ti (IntKind.i64.wrap ((c_.length : Int) - (1:Int)))), (0, tsl (rSl rI) c_), (1, tsl rI values_)] [] a w) _ _ he64 (hst.pick [0, 1, 2, 3, 4, 5, 6, 7, 8]) ?_
          clear h
          intro s63 o a w K113 hI h ho hK113
          have hst := hI
          clear hI
          refine wp_seq_k (fun K114 hK114 => ?_)
          refine wp_seq_k (fun K115 hK115 => ?_)
          refine wp_reg mixed [] hst (fun _ => .p rfl (op_move (.t 0 rfl)) <| .p rfl (op_move (.t 6 rfl)) <| .p rfl (op_leq (.t 1 rfl) (.t 0 rfl)) <| .nil _ _) (by kernel_rfl) (fun n27 a w hst => ?_)
          replace hst : St M w0 170 [(89, tb (decide (s63.1 ≤ (values_.length : Int)))), (16, ti s63.1), (15, tb s63.2.1), (14, tb s63.2.2.1), (13, ti s63.2.2.2.1), (12, ti s63.2.2.2.2), (11, ti (values_.length : Int)), (7, ti (IntKind.i64.wrap ((c_.length : Int) - (1:Int)))), (0, tsl (rSl rI) c_), (1, tsl rI values_)] [] a w := (hst.pick [2, 3, 4, 5, 6, 7, 8, 9, 10, 11])
          refine hK115 _ _ ?_
          try clear hK115 K115
          refine wp_test 0 hst rfl (fun b155 => ?_) (fun b155 => ?_)
          · replace h := ite_t b155 h
            refine wp_skip ?_
            refine hK114 _ _ ?_
            try clear hK114 K114
            refine wp_seq_k (fun K116 hK116 => ?_)
            refine wp_block ?_
            refine wp_seq_k (fun K117 hK117 => ?_)
            refine wp_reg mixed [] hst (fun _ => .p rfl (op_move (.t 7 rfl)) <| .p rfl (op_assign (.t 0 rfl)) <| .nil _ _) (by kernel_rfl) (fun n29 a w hst => ?_)
            replace hst : St M w0 170 [(17, ti (IntKind.i64.wrap ((c_.length : Int) - (1:Int)))), (16, ti s63.1), (15, tb s63.2.1), (14, tb s63.2.2.1), (13, ti s63.2.2.2.1), (12, ti s63.2.2.2.2), (11, ti (values_.length : Int)), (7, ti (IntKind.i64.wrap ((c_.length : Int) - (1:Int)))), (0, tsl (rSl rI) c_), (1, tsl rI values_)] [] a w := (hst.pick [1, 3, 4, 5, 6, 7, 8, 9, 10, 11])
            refine hK117 _ _ ?_
            try clear hK117 K117
            refine wp_seq_k (fun K118 hK118 => ?_)
            refine wp_reg mixed [] hst (fun _ => .p rfl (op_assign .k) <| .nil _ _) (by kernel_rfl) (fun n30 a w hst => ?_)
            replace hst : St M w0 170 [(18, ti (0:Int)), (17, ti (IntKind.i64.wrap ((c_.length : Int) - (1:Int)))), (16, ti s63.1), (15, tb s63.2.1), (14, tb s63.2.2.1), (13, ti s63.2.2.2.1), (12, ti s63.2.2.2.2), (11, ti (values_.length : Int)), (7, ti (IntKind.i64.wrap ((c_.length : Int) - (1:Int)))), (0, tsl (rSl rI) c_), (1, tsl rI values_)] [] a w := (hst.pick [0, 1, 2, 3, 4, 5, 6, 7, 8, 9, 10])
            refine hK118 _ _ ?_
            try clear hK118 K118
            refine wp_seq_k (fun K119 hK119 => ?_)
            refine wp_seq_k (fun K120 hK120 => ?_)
            refine wp_reg mixed [] hst (fun _ => .p rfl (op_move (.t 2 rfl)) <| .p rfl (op_move (.t 8 rfl)) <| .p rfl (op_lss (.t 1 rfl) (.t 0 rfl)) <| .nil _ _) (by kernel_rfl) (fun n31 a w hst => ?_)
            replace hst : St M w0 170 [(95, tb (decide (s63.1 < (values_.length : Int)))), (18, ti (0:Int)), (17, ti (IntKind.i64.wrap ((c_.length : Int) - (1:Int)))), (16, ti s63.1), (15, tb s63.2.1), (14, tb s63.2.2.1), (13, ti s63.2.2.2.1), (12, ti s63.2.2.2.2), (11, ti (values_.length : Int)), (7, ti (IntKind.i64.wrap ((c_.length : Int) - (1:Int)))), (0, tsl (rSl rI) c_), (1, tsl rI values_)] [] a w := (hst.pick [2, 3, 4, 5, 6, 7, 8, 9, 10, 11, 12, 13])
            refine hK120 _ _ ?_
            try clear hK120 K120
            obtain ⟨p121, hp121, h⟩ := bind_some h
            have hJp121 : ∀ a w, St M w0 170 [(18, ti p121.1), (17, ti p121.2), (16, ti s63.1), (15, tb s63.2.1), (14, tb s63.2.2.1), (13, ti s63.2.2.2.1), (12, ti s63.2.2.2.2), (11, ti (values_.length : Int)), (7, ti (IntKind.i64.wrap ((c_.length : Int) - (1:Int)))), (0, tsl (rSl rI) c_), (1, tsl rI values_)] [] a w → K119 a w := by
              intro a w hst
              refine hK119 _ _ ?_
              try clear hK119 K119
              refine wp_seq_k (fun K124 hK124 => ?_)
              refine wp_seq_k (fun K125 hK125 => ?_)
              obtain ⟨t103, ht103, h⟩ := bind_some h
              obtain ⟨t106, ht106, h⟩ := bind_some h
              refine wp_reg mixed [] hst (fun _ => .p rfl (op_move (.t 9 rfl)) <| .p rfl (op_move (.t 2 rfl)) <| .p rfl (op_index Try.underlying26 tok22 (.t 1 rfl) (.t 0 rfl) ht103) <| .p rfl (op_load tok22 (.t 0 rfl)) <| .p rfl (op_move (.t 11 rfl)) <| .p rfl (op_index Try.underlying22 tok3 (.t 1 rfl) (.t 0 rfl) ht106) <| .p rfl (op_load tok3 (.t 0 rfl)) <| .p rfl (op_lss (.t 0 rfl) .k) <| .nil _ _) (by kernel_rfl) (fun n34 a w hst => ?_)
              replace hst : St M w0 170 [(108, tb (decide (t106 < (1099511627776:Int)))), (18, ti p121.1), (17, ti p121.2), (16, ti s63.1), (15, tb s63.2.1), (14, tb s63.2.2.1), (13, ti s63.2.2.2.1), (12, ti s63.2.2.2.2), (11, ti (values_.length : Int)), (7, ti (IntKind.i64.wrap ((c_.length : Int) - (1:Int)))), (0, tsl (rSl rI) c_), (1, tsl rI values_)] [] a w := (hst.pick [7, 8, 9, 10, 11, 12, 13, 14, 15, 16, 17, 18])
              refine hK125 _ _ ?_
              try clear hK125 K125
              obtain ⟨p126, hp126, h⟩ := bind_some h
              have hJp126 : ∀ a w, St M w0 170 [(14, tb p126.1), (12, ti p126.2), (18, ti p121.1), (17, ti p121.2), (16, ti s63.1), (15, tb s63.2.1), (13, ti s63.2.2.2.1), (11, ti (values_.length : Int)), (7, ti (IntKind.i64.wrap ((c_.length : Int) - (1:Int)))), (0, tsl (rSl rI) c_), (1, tsl rI values_)] [] a w → K124 a w := by
                intro a w hst
                refine hK124 _ _ ?_
                try clear hK124 K124
                refine wp_seq_k (fun K133 hK133 => ?_)
                obtain ⟨t135, ht135, h⟩ := bind_some h
                obtain ⟨t138, ht138, h⟩ := bind_some h
                refine wp_reg mixed [] hst (fun _ => .p rfl (op_move (.t 9 rfl)) <| .p rfl (op_move (.t 8 rfl)) <| .p rfl (op_index Try.underlying26 tok22 (.t 1 rfl) (.t 0 rfl) ht135) <| .p rfl (op_load tok22 (.t 0 rfl)) <| .p rfl (op_move (.t 7 rfl)) <| .p rfl (op_index Try.underlying22 tok3 (.t 1 rfl) (.t 0 rfl) ht138) <| .p rfl (op_load tok3 (.t 0 rfl)) <| .p rfl (op_lss (.t 0 rfl) .k) <| .nil _ _) (by kernel_rfl) (fun n38 a w hst => ?_)
                replace hst : St M w0 170 [(140, tb (decide (t138 < (1099511627776:Int)))), (14, tb p126.1), (12, ti p126.2), (18, ti p121.1), (17, ti p121.2), (16, ti s63.1), (15, tb s63.2.1), (13, ti s63.2.2.2.1), (11, ti (values_.length : Int)), (7, ti (IntKind.i64.wrap ((c_.length : Int) - (1:Int)))), (0, tsl (rSl rI) c_), (1, tsl rI values_)] [] a w := (hst.pick [7, 8, 9, 10, 11, 12, 13, 14, 15, 16, 17, 18])
                refine hK133 _ _ ?_
                try clear hK133 K133
                obtain ⟨p134, hp134, h⟩ := bind_some h
                have hJp134 : ∀ a w, St M w0 170 [(15, tb p134.1), (13, ti p134.2), (14, tb p126.1), (12, ti p126.2), (16, ti s63.1), (11, ti (values_.length : Int)), (7, ti (IntKind.i64.wrap ((c_.length : Int) - (1:Int)))), (0, tsl (rSl rI) c_), (1, tsl rI values_)] [] a w → K116 a w := by
                  intro a w hst
                  refine hK116 _ _ ?_
                  try clear hK116 K116
                  refine wp_reg mixed [] hst (fun _ => .p rfl (op_move (.t 4 rfl)) <| .p rfl (op_add (.t 0 rfl) .k) <| .p rfl (op_assign (.t 0 rfl)) <| .nil _ _) (by kernel_rfl) (fun n28 a w hst => ?_)
                  replace hst : St M w0 170 [(16, ti (IntKind.i64.wrap (s63.1 + (1:Int)))), (15, tb p134.1), (13, ti p134.2), (14, tb p126.1), (12, ti p126.2), (11, ti (values_.length : Int)), (7, ti (IntKind.i64.wrap ((c_.length : Int) - (1:Int)))), (0, tsl (rSl rI) c_), (1, tsl rI values_)] [] a w := (hst.pick [2, 3, 4, 5, 6, 7, 8, 9, 10])
                  exact hK113 _ _ _ (Option.some.inj h).symm (hst.pick [0, 1, 3, 2, 4, 5, 6, 7, 8])
                replace h := hp134
                clear hp134
                refine wp_test 0 hst rfl (fun b146 => ?_) (fun b146 => ?_)
                · replace h := ite_t b146 h
                  refine wp_seq_k (fun K141 hK141 => ?_)
                  refine wp_seq_k (fun K142 hK142 => ?_)
                  obtain ⟨t147, ht147, h⟩ := bind_some h
                  obtain ⟨t150, ht150, h⟩ := bind_some h
                  refine wp_reg mixed [] hst (fun _ => .p rfl (op_move (.t 6 rfl)) <| .p rfl (op_not (.t 0 rfl)) <| .p rfl (op_move (.t 0 rfl)) <| .g rfl rfl (.b 0 rfl) (fun _ => op_move (.t 6 rfl)) <| .g rfl rfl (.b 1 rfl) (fun _ => op_move (.t 14 rfl)) <| .g rfl rfl (.b 2 rfl) (fun _ => op_move (.t 13 rfl)) <| .g rfl rfl (.b 3 rfl) (fun hc => op_index Try.underlying26 tok22 (.cond (.t 1 rfl) hc) (.cond (.t 0 rfl) hc) (opt_t ht147 hc)) <| .g rfl rfl (.b 4 rfl) (fun hc => op_load tok22 (.cond (.t 0 rfl) hc)) <| .g rfl rfl (.b 5 rfl) (fun _ => op_move (.t 12 rfl)) <| .g rfl rfl (.b 6 rfl) (fun hc => op_index Try.underlying22 tok3 (.cond (.t 1 rfl) hc) (.cond (.t 0 rfl) hc) (opt_t ht150 hc)) <| .g rfl rfl (.b 7 rfl) (fun hc => op_load tok3 (.cond (.t 0 rfl) hc)) <| .g rfl rfl (.b 8 rfl) (fun hc => op_add (.cond (.t 7 rfl) hc) (.cond (.t 0 rfl) hc)) <| .g rfl rfl (.b 9 rfl) (fun _ => op_move (.t 19 rfl)) <| .g rfl rfl (.b 10 rfl) (fun hc => op_lss (.cond (.t 1 rfl) hc) (.cond (.t 0 rfl) hc)) <| .p rfl (op_or (.t 11 rfl) (fun hp => (.cond (.t 0 rfl) (beqF hp)))) <| .nil _ _) (by kernel_rfl) (fun n39 a w hst => ?_)
                  replace hst : St M w0 170 [(155, tb ((!s63.2.1) || (decide ((IntKind.i64.wrap (p121.1 + t150)) < s63.2.2.2.1)))), (14, tb p126.1), (12, ti p126.2), (18, ti p121.1), (17, ti p121.2), (16, ti s63.1), (13, ti s63.2.2.2.1), (11, ti (values_.length : Int)), (7, ti (IntKind.i64.wrap ((c_.length : Int) - (1:Int)))), (0, tsl (rSl rI) c_), (1, tsl rI values_)] [] a w := (hst.pick [14, 16, 17, 18, 19, 20, 22, 23, 24, 25, 26])
                  refine hK142 _ _ ?_
                  try clear hK142 K142
                  obtain ⟨p143, hp143, h⟩ := bind_some h
                  have hJp143 : ∀ a w, St M w0 170 [(13, ti p143), (14, tb p126.1), (12, ti p126.2), (16, ti s63.1), (11, ti (values_.length : Int)), (7, ti (IntKind.i64.wrap ((c_.length : Int) - (1:Int)))), (0, tsl (rSl rI) c_), (1, tsl rI values_)] [] a w → K141 a w := by
                    intro a w hst
                    refine hK141 _ _ ?_
                    try clear hK141 K141
                    refine wp_reg mixed [] hst (fun _ => .p rfl (op_assign .k) <| .nil _ _) (by kernel_rfl) (fun n41 a w hst => ?_)
                    replace hst : St M w0 170 [(15, tb true), (13, ti p143), (14, tb p126.1), (12, ti p126.2), (16, ti s63.1), (11, ti (values_.length : Int)), (7, ti (IntKind.i64.wrap ((c_.length : Int) - (1:Int)))), (0, tsl (rSl rI) c_), (1, tsl rI values_)] [] a w := (hst.pick [0, 1, 2, 3, 4, 5, 6, 7, 8])
                    obtain rfl := Option.some.inj h
                    exact hJp134 _ _ (hst.pick [0, 1, 2, 3, 4, 5, 6, 7, 8])
                  replace h := hp143
                  clear hp143
                  refine wp_test 0 hst rfl (fun b145 => ?_) (fun b145 => ?_)
                  · replace h := ite_t b145 h
                    obtain ⟨t159, ht159, h⟩ := bind_some h
                    obtain ⟨t162, ht162, h⟩ := bind_some h
                    refine wp_reg mixed [] hst (fun _ => .p rfl (op_move (.t 3 rfl)) <| .p rfl (op_move (.t 10 rfl)) <| .p rfl (op_move (.t 9 rfl)) <| .p rfl (op_index Try.underlying26 tok22 (.t 1 rfl) (.t 0 rfl) ht159) <| .p rfl (op_load tok22 (.t 0 rfl)) <| .p rfl (op_move (.t 9 rfl)) <| .p rfl (op_index Try.underlying22 tok3 (.t 1 rfl) (.t 0 rfl) ht162) <| .p rfl (op_load tok3 (.t 0 rfl)) <| .p rfl (op_add (.t 7 rfl) (.t 0 rfl)) <| .p rfl (op_assign (.t 0 rfl)) <| .nil _ _) (by kernel_rfl) (fun n40 a w hst => ?_)
                    replace hst : St M w0 170 [(13, ti (IntKind.i64.wrap (p121.1 + t162))), (14, tb p126.1), (12, ti p126.2), (16, ti s63.1), (11, ti (values_.length : Int)), (7, ti (IntKind.i64.wrap ((c_.length : Int) - (1:Int)))), (0, tsl (rSl rI) c_), (1, tsl rI values_)] [] a w := (hst.pick [9, 11, 12, 15, 16, 17, 18, 19])
                    obtain rfl := Option.some.inj h
                    exact hJp143 _ _ (hst.pick [0, 1, 2, 3, 4, 5, 6, 7])
                  · replace h := ite_f b145 h
                    refine wp_skip ?_
                    obtain rfl := Option.some.inj h
                    exact hJp143 _ _ (hst.pick [6, 1, 2, 5, 7, 8, 9, 10])
                · replace h := ite_f b146 h
                  refine wp_skip ?_
                  obtain rfl := Option.some.inj h
                  exact hJp134 _ _ (hst.pick [6, 7, 1, 2, 5, 8, 9, 10, 11])
              replace h := hp126
              clear hp126
              refine wp_test 0 hst rfl (fun b152 => ?_) (fun b152 => ?_)
              · replace h := ite_t b152 h
                refine wp_seq_k (fun K147 hK147 => ?_)
                refine wp_seq_k (fun K148 hK148 => ?_)
                obtain ⟨t115, ht115, h⟩ := bind_some h
                obtain ⟨t118, ht118, h⟩ := bind_some h
                refine wp_reg mixed [] hst (fun _ => .p rfl (op_move (.t 5 rfl)) <| .p rfl (op_not (.t 0 rfl)) <| .p rfl (op_move (.t 0 rfl)) <| .g rfl rfl (.b 0 rfl) (fun _ => op_move (.t 4 rfl)) <| .g rfl rfl (.b 1 rfl) (fun _ => op_move (.t 14 rfl)) <| .g rfl rfl (.b 2 rfl) (fun _ => op_move (.t 7 rfl)) <| .g rfl rfl (.b 3 rfl) (fun hc => op_index Try.underlying26 tok22 (.cond (.t 1 rfl) hc) (.cond (.t 0 rfl) hc) (opt_t ht115 hc)) <| .g rfl rfl (.b 4 rfl) (fun hc => op_load tok22 (.cond (.t 0 rfl) hc)) <| .g rfl rfl (.b 5 rfl) (fun _ => op_move (.t 16 rfl)) <| .g rfl rfl (.b 6 rfl) (fun hc => op_index Try.underlying22 tok3 (.cond (.t 1 rfl) hc) (.cond (.t 0 rfl) hc) (opt_t ht118 hc)) <| .g rfl rfl (.b 7 rfl) (fun hc => op_load tok3 (.cond (.t 0 rfl) hc)) <| .g rfl rfl (.b 8 rfl) (fun hc => op_sub (.cond (.t 7 rfl) hc) (.cond (.t 0 rfl) hc)) <| .g rfl rfl (.b 9 rfl) (fun _ => op_move (.t 19 rfl)) <| .g rfl rfl (.b 10 rfl) (fun hc => op_gtr (.cond (.t 1 rfl) hc) (.cond (.t 0 rfl) hc)) <| .p rfl (op_or (.t 11 rfl) (fun hp => (.cond (.t 0 rfl) (beqF hp)))) <| .nil _ _) (by kernel_rfl) (fun n35 a w hst => ?_)
                replace hst : St M w0 170 [(123, tb ((!s63.2.2.1) || (decide ((IntKind.i64.wrap (p121.1 - t118)) > s63.2.2.2.2)))), (18, ti p121.1), (17, ti p121.2), (16, ti s63.1), (15, tb s63.2.1), (13, ti s63.2.2.2.1), (12, ti s63.2.2.2.2), (11, ti (values_.length : Int)), (7, ti (IntKind.i64.wrap ((c_.length : Int) - (1:Int)))), (0, tsl (rSl rI) c_), (1, tsl rI values_)] [] a w := (hst.pick [14, 16, 17, 18, 19, 21, 22, 23, 24, 25, 26])
                refine hK148 _ _ ?_
                try clear hK148 K148
                obtain ⟨p149, hp149, h⟩ := bind_some h
                have hJp149 : ∀ a w, St M w0 170 [(12, ti p149), (18, ti p121.1), (17, ti p121.2), (16, ti s63.1), (15, tb s63.2.1), (13, ti s63.2.2.2.1), (11, ti (values_.length : Int)), (7, ti (IntKind.i64.wrap ((c_.length : Int) - (1:Int)))), (0, tsl (rSl rI) c_), (1, tsl rI values_)] [] a w → K147 a w := by
                  intro a w hst
                  refine hK147 _ _ ?_
                  try clear hK147 K147
                  refine wp_reg mixed [] hst (fun _ => .p rfl (op_assign .k) <| .nil _ _) (by kernel_rfl) (fun n37 a w hst => ?_)
                  replace hst : St M w0 170 [(14, tb true), (12, ti p149), (18, ti p121.1), (17, ti p121.2), (16, ti s63.1), (15, tb s63.2.1), (13, ti s63.2.2.2.1), (11, ti (values_.length : Int)), (7, ti (IntKind.i64.wrap ((c_.length : Int) - (1:Int)))), (0, tsl (rSl rI) c_), (1, tsl rI values_)] [] a w := (hst.pick [0, 1, 2, 3, 4, 5, 6, 7, 8, 9, 10])
                  obtain rfl := Option.some.inj h
                  exact hJp126 _ _ (hst.pick [0, 1, 2, 3, 4, 5, 6, 7, 8, 9, 10])
                replace h := hp149
                clear hp149
                refine wp_test 0 hst rfl (fun b151 => ?_) (fun b151 => ?_)
                · replace h := ite_t b151 h
                  obtain ⟨t127, ht127, h⟩ := bind_some h
                  obtain ⟨t130, ht130, h⟩ := bind_some h
                  refine wp_reg mixed [] hst (fun _ => .p rfl (op_move (.t 1 rfl)) <| .p rfl (op_move (.t 10 rfl)) <| .p rfl (op_move (.t 4 rfl)) <| .p rfl (op_index Try.underlying26 tok22 (.t 1 rfl) (.t 0 rfl) ht127) <| .p rfl (op_load tok22 (.t 0 rfl)) <| .p rfl (op_move (.t 12 rfl)) <| .p rfl (op_index Try.underlying22 tok3 (.t 1 rfl) (.t 0 rfl) ht130) <| .p rfl (op_load tok3 (.t 0 rfl)) <| .p rfl (op_sub (.t 7 rfl) (.t 0 rfl)) <| .p rfl (op_assign (.t 0 rfl)) <| .nil _ _) (by kernel_rfl) (fun n36 a w hst => ?_)
                  replace hst : St M w0 170 [(12, ti (IntKind.i64.wrap (p121.1 - t130))), (18, ti p121.1), (17, ti p121.2), (16, ti s63.1), (15, tb s63.2.1), (13, ti s63.2.2.2.1), (11, ti (values_.length : Int)), (7, ti (IntKind.i64.wrap ((c_.length : Int) - (1:Int)))), (0, tsl (rSl rI) c_), (1, tsl rI values_)] [] a w := (hst.pick [9, 11, 12, 13, 14, 15, 16, 17, 18, 19])
                  obtain rfl := Option.some.inj h
                  exact hJp149 _ _ (hst.pick [0, 1, 2, 3, 4, 5, 6, 7, 8, 9])
                · replace h := ite_f b151 h
                  refine wp_skip ?_
                  obtain rfl := Option.some.inj h
                  exact hJp149 _ _ (hst.pick [6, 1, 2, 3, 4, 5, 7, 8, 9, 10])
              · replace h := ite_f b152 h
                refine wp_skip ?_
                obtain rfl := Option.some.inj h
                exact hJp126 _ _ (hst.pick [5, 7, 1, 2, 3, 4, 6, 8, 9, 10, 11])
            replace h := hp121
            clear hp121
            refine wp_test 0 hst rfl (fun b154 => ?_) (fun b154 => ?_)
            · replace h := ite_t b154 h
              refine wp_seq_k (fun K153 hK153 => ?_)
              refine wp_reg mixed [] hst (fun _ => .p rfl (op_move (.t 3 rfl)) <| .p rfl (op_assign (.t 0 rfl)) <| .nil _ _) (by kernel_rfl) (fun n32 a w hst => ?_)
              replace hst : St M w0 170 [(17, ti s63.1), (16, ti s63.1), (15, tb s63.2.1), (14, tb s63.2.2.1), (13, ti s63.2.2.2.1), (12, ti s63.2.2.2.2), (11, ti (values_.length : Int)), (7, ti (IntKind.i64.wrap ((c_.length : Int) - (1:Int)))), (0, tsl (rSl rI) c_), (1, tsl rI values_)] [] a w := (hst.pick [1, 4, 5, 6, 7, 8, 9, 10, 11, 12])
              refine hK153 _ _ ?_
              try clear hK153 K153
              obtain ⟨t99, ht99, h⟩ := bind_some h
              refine wp_reg mixed [] hst (fun _ => .p rfl (op_move (.t 9 rfl)) <| .p rfl (op_move (.t 2 rfl)) <| .p rfl (op_index Try.underlying22 tok3 (.t 1 rfl) (.t 0 rfl) ht99) <| .p rfl (op_load tok3 (.t 0 rfl)) <| .p rfl (op_assign (.t 0 rfl)) <| .nil _ _) (by kernel_rfl) (fun n33 a w hst => ?_)
              replace hst : St M w0 170 [(18, ti t99), (17, ti s63.1), (16, ti s63.1), (15, tb s63.2.1), (14, tb s63.2.2.1), (13, ti s63.2.2.2.1), (12, ti s63.2.2.2.2), (11, ti (values_.length : Int)), (7, ti (IntKind.i64.wrap ((c_.length : Int) - (1:Int)))), (0, tsl (rSl rI) c_), (1, tsl rI values_)] [] a w := (hst.pick [4, 5, 6, 7, 8, 9, 10, 11, 12, 13, 14])
              obtain rfl := Option.some.inj h
              exact hJp121 _ _ (hst.pick [0, 1, 2, 3, 4, 5, 6, 7, 8, 9, 10])
            · replace h := ite_f b154 h
              refine wp_skip ?_
              obtain rfl := Option.some.inj h
              exact hJp121 _ _ (hst.pick [1, 2, 3, 4, 5, 6, 7, 8, 9, 10, 11])
          · replace h := ite_f b155 h
            refine wp_exit ?_
            exact hJp107 _ _ _ (ho _ (Option.some.inj h).symm) (hst.pick [4, 5])
      have hJp52 : ∀ (p52 : Int × Int × Int) a w, (.inr p52) = e43 → St M w0 170 [(4, ti p52.1), (5, ti p52.2.1), (6, ti p52.2.2)] [] a w → Ret Try.prog Try.f39 M0 [] w0 (fun _ => []) (fun _ => ttup [ti r.1, ti r.2.1, ti r.2.2]) .ret a w := by
        intro p52 a w he hst
        subst he
        simp only at h
        obtain rfl := Option.some.inj h
        exact ret_st undef [] hpl hst rfl (.tmp (.t 0 rfl) (.tmp (.t 1 rfl) (.tmp (.t 2 rfl) .nil))) rfl rfl rfl
      refine wp_block ?_
      refine wp_loopK _ (fun (s42 : Int) a w => St M w0 170 [(10, ti s42), (7, ti (IntKind.i64.wrap ((c_.length : Int) - (1:Int)))), (0, tsl (rSl rI) c_), (1, tsl rI values_)] [] a w) _ _ he43 (hst.pick [0, 1, 2, 3]) ?_
      clear h
      intro s42 o a w K157 hI h ho hK157
      have hst := hI
      clear hI
      refine wp_seq_k (fun K158 hK158 => ?_)
      refine wp_seq_k (fun K159 hK159 => ?_)
      refine wp_reg mixed [] hst (fun _ => .p rfl (op_move (.t 0 rfl)) <| .p rfl (op_move (.t 4 rfl)) <| .p rfl (op_len Try.underlying22 (.t 0 rfl)) <| .p rfl (op_lss (.t 2 rfl) (.t 0 rfl)) <| .nil _ _) (by kernel_rfl) (fun n15 a w hst => ?_)
      replace hst : St M w0 170 [(67, tb (decide (s42 < (values_.length : Int)))), (10, ti s42), (7, ti (IntKind.i64.wrap ((c_.length : Int) - (1:Int)))), (0, tsl (rSl rI) c_), (1, tsl rI values_)] [] a w := (hst.pick [3, 4, 5, 6, 7])
      refine hK159 _ _ ?_
      try clear hK159 K159
      refine wp_test 0 hst rfl (fun b164 => ?_) (fun b164 => ?_)
      · replace h := ite_t b164 h
        refine wp_skip ?_
        refine hK158 _ _ ?_
        try clear hK158 K158
        refine wp_seq_k (fun K160 hK160 => ?_)
        refine wp_block ?_
        refine wp_seq_k (fun K161 hK161 => ?_)
        obtain ⟨t72, ht72, h⟩ := bind_some h
        obtain ⟨t78, ht78, h⟩ := bind_some h
        refine wp_reg mixed [] hst (fun _ => .p rfl (op_move (.t 4 rfl)) <| .p rfl (op_move (.t 2 rfl)) <| .p rfl (op_index Try.underlying22 tok3 (.t 1 rfl) (.t 0 rfl) ht72) <| .p rfl (op_load tok3 (.t 0 rfl)) <| .p rfl (op_lss (.t 0 rfl) .k) <| .p rfl (op_move (.t 0 rfl)) <| .g rfl rfl (.b 0 rfl) (fun _ => op_move (.t 10 rfl)) <| .g rfl rfl (.b 1 rfl) (fun _ => op_move (.t 8 rfl)) <| .g rfl rfl (.b 2 rfl) (fun hc => op_index Try.underlying22 tok3 (.cond (.t 1 rfl) hc) (.cond (.t 0 rfl) hc) (opt_t ht78 hc)) <| .g rfl rfl (.b 3 rfl) (fun hc => op_load tok3 (.cond (.t 0 rfl) hc)) <| .g rfl rfl (.b 4 rfl) (fun hc => op_gtr (.cond (.t 0 rfl) hc) .k) <| .p rfl (op_or (.t 5 rfl) (fun hp => (.cond (.t 0 rfl) (beqF hp)))) <| .nil _ _) (by kernel_rfl) (fun n17 a w hst => ?_)
        replace hst : St M w0 170 [(81, tb ((decide (t72 < (-1099511627776:Int))) || (decide (t78 > (1099511627776:Int))))), (10, ti s42), (7, ti (IntKind.i64.wrap ((c_.length : Int) - (1:Int)))), (0, tsl (rSl rI) c_), (1, tsl rI values_)] [] a w := (hst.pick [11, 13, 14, 15, 16])
        refine hK161 _ _ ?_
        try clear hK161 K161
        refine wp_test 0 hst rfl (fun b163 => ?_) (fun b163 => ?_)
        · replace h := ite_t b163 h
          refine wp_seq_k (fun K162 hK162 => ?_)
          refine wp_reg mixed [] hst (fun _ => .p rfl (op_assign .k) <| .p rfl (op_assign .k) <| .p rfl (op_assign .k) <| .nil _ _) (by kernel_rfl) (fun n18 a w hst => ?_)
          replace hst : St M w0 170 [(4, ti (0:Int)), (5, ti (0:Int)), (6, ti (1:Int))] [] a w := (hst.pick [0, 1, 2])
          refine hK162 _ _ ?_
          try clear hK162 K162
          refine wp_ret ?_
          exact hJp52 _ _ _ (ho _ (Option.some.inj h).symm) (hst.pick [0, 1, 2])
        · replace h := ite_f b163 h
          refine wp_skip ?_
          refine hK160 _ _ ?_
          try clear hK160 K160
          refine wp_reg mixed [] hst (fun _ => .p rfl (op_move (.t 1 rfl)) <| .p rfl (op_add (.t 0 rfl) .k) <| .p rfl (op_assign (.t 0 rfl)) <| .nil _ _) (by kernel_rfl) (fun n16 a w hst => ?_)
          replace hst : St M w0 170 [(10, ti (IntKind.i64.wrap (s42 + (1:Int)))), (7, ti (IntKind.i64.wrap ((c_.length : Int) - (1:Int)))), (0, tsl (rSl rI) c_), (1, tsl rI values_)] [] a w := (hst.pick [2, 4, 5, 6])
          exact hK157 _ _ _ (Option.some.inj h).symm (hst.pick [0, 1, 2, 3])
      · replace h := ite_f b164 h
        refine wp_exit ?_
        exact hJp51 _ _ _ (ho _ (Option.some.inj h).symm) (hst.pick [2, 3, 4])
    have hJp39 : ∀ (p39 : Int × Int × Int) a w, (.inr p39) = e9 → St M w0 170 [(4, ti p39.1), (5, ti p39.2.1), (6, ti p39.2.2)] [] a w → Ret Try.prog Try.f39 M0 [] w0 (fun _ => []) (fun _ => ttup [ti r.1, ti r.2.1, ti r.2.2]) .ret a w := by
      intro p39 a w he hst
      subst he
      simp only at h
      obtain rfl := Option.some.inj h
      exact ret_st undef [] hpl hst rfl (.tmp (.t 0 rfl) (.tmp (.t 1 rfl) (.tmp (.t 2 rfl) .nil))) rfl rfl rfl
    refine wp_block ?_
    refine wp_loopK _ (fun (s8 : Int) a w => St M w0 170 [(8, ti s8), (7, ti (IntKind.i64.wrap ((c_.length : Int) - (1:Int)))), (0, tsl (rSl rI) c_), (1, tsl rI values_)] [] a w) _ _ he9 (hst.pick [0, 1, 2, 3]) ?_
    clear h
    intro s8 o a w K165 hI h ho hK165
    have hst := hI
    clear hI
    refine wp_seq_k (fun K166 hK166 => ?_)
    refine wp_seq_k (fun K167 hK167 => ?_)
    refine wp_reg mixed [] hst (fun _ => .p rfl (op_move (.t 0 rfl)) <| .p rfl (op_move (.t 2 rfl)) <| .p rfl (op_leq (.t 1 rfl) (.t 0 rfl)) <| .nil _ _) (by kernel_rfl) (fun n5 a w hst => ?_)
    replace hst : St M w0 170 [(30, tb (decide (s8 ≤ (IntKind.i64.wrap ((c_.length : Int) - (1:Int)))))), (8, ti s8), (7, ti (IntKind.i64.wrap ((c_.length : Int) - (1:Int)))), (0, tsl (rSl rI) c_), (1, tsl rI values_)] [] a w := (hst.pick [2, 3, 4, 5, 6])
    refine hK167 _ _ ?_
    try clear hK167 K167
    refine wp_test 0 hst rfl (fun b193 => ?_) (fun b193 => ?_)
    · replace h := ite_t b193 h
      refine wp_skip ?_
      refine hK166 _ _ ?_
      try clear hK166 K166
      refine wp_seq_k (fun K168 hK168 => ?_)
      refine wp_block ?_
      refine wp_seq_k (fun K169 hK169 => ?_)
      refine wp_seq_k (fun K170 hK170 => ?_)
      obtain ⟨t35, ht35, h⟩ := bind_some h
      refine wp_reg mixed [] hst (fun _ => .p rfl (op_move (.t 3 rfl)) <| .p rfl (op_move (.t 2 rfl)) <| .p rfl (op_index Try.underlying26 tok22 (.t 1 rfl) (.t 0 rfl) ht35) <| .p rfl (op_load tok22 (.t 0 rfl)) <| .p rfl (op_len Try.underlying22 (.t 0 rfl)) <| .p rfl (op_move (.t 7 rfl)) <| .p rfl (op_add (.t 0 rfl) .k) <| .p rfl (op_neq (.t 2 rfl) (.t 0 rfl)) <| .nil _ _) (by kernel_rfl) (fun n7 a w hst => ?_)
      replace hst : St M w0 170 [(40, tb ((t35.length : Int) != (IntKind.i64.wrap ((IntKind.i64.wrap ((c_.length : Int) - (1:Int))) + (1:Int))))), (8, ti s8), (7, ti (IntKind.i64.wrap ((c_.length : Int) - (1:Int)))), (0, tsl (rSl rI) c_), (1, tsl rI values_)] [] a w := (hst.pick [7, 9, 10, 11, 12])
      refine hK170 _ _ ?_
      try clear hK170 K170
      refine wp_test 0 hst rfl (fun b192 => ?_) (fun b192 => ?_)
      · replace h := ite_t b192 h
        refine wp_seq_k (fun K171 hK171 => ?_)
        refine wp_reg mixed [] hst (fun _ => .p rfl (op_assign .k) <| .p rfl (op_assign .k) <| .p rfl (op_assign .k) <| .nil _ _) (by kernel_rfl) (fun n8 a w hst => ?_)
        replace hst : St M w0 170 [(4, ti (0:Int)), (5, ti (0:Int)), (6, ti (1:Int))] [] a w := (hst.pick [0, 1, 2])
        refine hK171 _ _ ?_
        try clear hK171 K171
        refine wp_ret ?_
        exact hJp39 _ _ _ (ho _ (Option.some.inj h).symm) (hst.pick [0, 1, 2])
      · replace h := ite_f b192 h
        refine wp_skip ?_
        refine hK169 _ _ ?_
        try clear hK169 K169
        refine wp_seq_k (fun K172 hK172 => ?_)
        refine wp_reg mixed [] hst (fun _ => .p rfl (op_assign .k) <| .nil _ _) (by kernel_rfl) (fun n9 a w hst => ?_)
        replace hst : St M w0 170 [(9, ti (0:Int)), (8, ti s8), (7, ti (IntKind.i64.wrap ((c_.length : Int) - (1:Int)))), (0, tsl (rSl rI) c_), (1, tsl rI values_)] [] a w := (hst.pick [0, 2, 3, 4, 5])
        refine hK172 _ _ ?_
        try clear hK172 K172
        obtain ⟨e174, he174, h⟩ := bind_some h
        have hJp182 : ∀ (p182 : Unit) a w, (.inl p182) = e174 → St M w0 170 [(8, ti s8), (7, ti (IntKind.i64.wrap ((c_.length : Int) - (1:Int)))), (0, tsl (rSl rI) c_), (1, tsl rI values_)] [] a w → K168 a w := by
          intro p182 a w he hst
          subst he
          simp only at h
          refine hK168 _ _ ?_
          try clear hK168 K168
          refine wp_reg mixed [] hst (fun _ => .p rfl (op_move (.t 0 rfl)) <| .p rfl (op_add (.t 0 rfl) .k) <| .p rfl (op_assign (.t 0 rfl)) <| .nil _ _) (by kernel_rfl) (fun n6 a w hst => ?_)
          replace hst : St M w0 170 [(8, ti (IntKind.i64.wrap (s8 + (1:Int)))), (7, ti (IntKind.i64.wrap ((c_.length : Int) - (1:Int)))), (0, tsl (rSl rI) c_), (1, tsl rI values_)] [] a w := (hst.pick [2, 3, 4, 5])
          exact hK165 _ _ _ (Option.some.inj h).symm (hst.pick [0, 1, 2, 3])
        have hJp183 : ∀ (p183 : Int × Int × Int) a w, (.inr p183) = e174 → St M w0 170 [(4, ti p183.1), (5, ti p183.2.1), (6, ti p183.2.2)] [] a w → Ret Try.prog Try.f39 M0 [] w0 (fun _ => []) (fun _ => ttup [ti r.1, ti r.2.1, ti r.2.2]) .ret a w := by
          intro p183 a w he hst
          subst he
          simp only at h
          exact hJp39 _ _ _ (ho _ (Option.some.inj h).symm) (hst.pick [0, 1, 2])
        refine wp_block ?_
        refine wp_loopK _ (fun (s173 : Int) a w => St M w0 170 [(9, ti s173), (8, ti s8), (7, ti (IntKind.i64.wrap ((c_.length : Int) - (1:Int)))), (0, tsl (rSl rI) c_), (1, tsl rI values_)] [] a w) _ _ he174 (hst.pick [0, 1, 2, 3, 4]) ?_
        clear h
        intro s173 o a w K184 hI h ho hK184
        have hst := hI
        clear hI
        refine wp_seq_k (fun K185 hK185 => ?_)
        refine wp_seq_k (fun K186 hK186 => ?_)
        refine wp_reg mixed [] hst (fun _ => .p rfl (op_move (.t 0 rfl)) <| .p rfl (op_move (.t 3 rfl)) <| .p rfl (op_leq (.t 1 rfl) (.t 0 rfl)) <| .nil _ _) (by kernel_rfl) (fun n10 a w hst => ?_)
        replace hst : St M w0 170 [(43, tb (decide (s173 ≤ (IntKind.i64.wrap ((c_.length : Int) - (1:Int)))))), (9, ti s173), (8, ti s8), (7, ti (IntKind.i64.wrap ((c_.length : Int) - (1:Int)))), (0, tsl (rSl rI) c_), (1, tsl rI values_)] [] a w := (hst.pick [2, 3, 4, 5, 6, 7])
        refine hK186 _ _ ?_
        try clear hK186 K186
        refine wp_test 0 hst rfl (fun b191 => ?_) (fun b191 => ?_)
        · replace h := ite_t b191 h
          refine wp_skip ?_
          refine hK185 _ _ ?_
          try clear hK185 K185
          refine wp_seq_k (fun K187 hK187 => ?_)
          refine wp_block ?_
          refine wp_seq_k (fun K188 hK188 => ?_)
          obtain ⟨t48, ht48, h⟩ := bind_some h
          obtain ⟨t51, ht51, h⟩ := bind_some h
          obtain ⟨t57, ht57, h⟩ := bind_some h
          obtain ⟨t60, ht60, h⟩ := bind_some h
          refine wp_reg mixed [] hst (fun _ => .p rfl (op_move (.t 4 rfl)) <| .p rfl (op_move (.t 3 rfl)) <| .p rfl (op_index Try.underlying26 tok22 (.t 1 rfl) (.t 0 rfl) ht48) <| .p rfl (op_load tok22 (.t 0 rfl)) <| .p rfl (op_move (.t 5 rfl)) <| .p rfl (op_index Try.underlying22 tok3 (.t 1 rfl) (.t 0 rfl) ht51) <| .p rfl (op_load tok3 (.t 0 rfl)) <| .p rfl (op_lss (.t 0 rfl) .k) <| .p rfl (op_move (.t 0 rfl)) <| .g rfl rfl (.b 0 rfl) (fun _ => op_move (.t 13 rfl)) <| .g rfl rfl (.b 1 rfl) (fun _ => op_move (.t 12 rfl)) <| .g rfl rfl (.b 2 rfl) (fun hc => op_index Try.underlying26 tok22 (.cond (.t 1 rfl) hc) (.cond (.t 0 rfl) hc) (opt_t ht57 hc)) <| .g rfl rfl (.b 3 rfl) (fun hc => op_load tok22 (.cond (.t 0 rfl) hc)) <| .g rfl rfl (.b 4 rfl) (fun _ => op_move (.t 14 rfl)) <| .g rfl rfl (.b 5 rfl) (fun hc => op_index Try.underlying22 tok3 (.cond (.t 1 rfl) hc) (.cond (.t 0 rfl) hc) (opt_t ht60 hc)) <| .g rfl rfl (.b 6 rfl) (fun hc => op_load tok3 (.cond (.t 0 rfl) hc)) <| .g rfl rfl (.b 7 rfl) (fun hc => op_gtr (.cond (.t 0 rfl) hc) .k) <| .p rfl (op_or (.t 8 rfl) (fun hp => (.cond (.t 0 rfl) (beqF hp)))) <| .nil _ _) (by kernel_rfl) (fun n12 a w hst => ?_)
          replace hst : St M w0 170 [(63, tb ((decide (t51 < (-1099511627776:Int))) || (decide (t60 > (1099511627776:Int))))), (9, ti s173), (8, ti s8), (7, ti (IntKind.i64.wrap ((c_.length : Int) - (1:Int)))), (0, tsl (rSl rI) c_), (1, tsl rI values_)] [] a w := (hst.pick [17, 19, 20, 21, 22, 23])
          refine hK188 _ _ ?_
          try clear hK188 K188
          refine wp_test 0 hst rfl (fun b190 => ?_) (fun b190 => ?_)
          · replace h := ite_t b190 h
            refine wp_seq_k (fun K189 hK189 => ?_)
            refine wp_reg mixed [] hst (fun _ => .p rfl (op_assign .k) <| .p rfl (op_assign .k) <| .p rfl (op_assign .k) <| .nil _ _) (by kernel_rfl) (fun n13 a w hst => ?_)
            replace hst : St M w0 170 [(4, ti (0:Int)), (5, ti (0:Int)), (6, ti (1:Int))] [] a w := (hst.pick [0, 1, 2])
            refine hK189 _ _ ?_
            try clear hK189 K189
            refine wp_ret ?_
            exact hJp183 _ _ _ (ho _ (Option.some.inj h).symm) (hst.pick [0, 1, 2])
          · replace h := ite_f b190 h
            refine wp_skip ?_
            refine hK187 _ _ ?_
            try clear hK187 K187
            refine wp_reg mixed [] hst (fun _ => .p rfl (op_move (.t 1 rfl)) <| .p rfl (op_add (.t 0 rfl) .k) <| .p rfl (op_assign (.t 0 rfl)) <| .nil _ _) (by kernel_rfl) (fun n11 a w hst => ?_)
            replace hst : St M w0 170 [(9, ti (IntKind.i64.wrap (s173 + (1:Int)))), (8, ti s8), (7, ti (IntKind.i64.wrap ((c_.length : Int) - (1:Int)))), (0, tsl (rSl rI) c_), (1, tsl rI values_)] [] a w := (hst.pick [2, 4, 5, 6, 7])
            exact hK184 _ _ _ (Option.some.inj h).symm (hst.pick [0, 1, 2, 3, 4])
        · replace h := ite_f b191 h
          refine wp_exit ?_
          exact hJp182 _ _ _ (ho _ (Option.some.inj h).symm) (hst.pick [2, 3, 4, 5])
    · replace h := ite_f b193 h
      refine wp_exit ?_
      exact hJp38 _ _ _ (ho _ (Option.some.inj h).symm) (hst.pick [2, 3, 4])

/- diorama/bounds.Holds$1 -/
noncomputable def fHolds1 (i_ : Int) (c0_ : (List Int)) : Option (Int) := (if (decide (i_ < (0:Int))) = true then (some (0:Int)) else (idx c0_ i_).bind fun t8 => (some t8))
set_option maxRecDepth 100000 in
set_option maxHeartbeats 4000000 in
theorem Holds1_ok {i_ : Int} {c0_ : (List Int)} {r : Int} (h : fHolds1 i_ c0_ = some r) : FnOk Try.prog 72 [ti i_, tptr ((rSl rI).cs c0_)] [] (fun _ => []) (fun _ => ti r) := by
  unfold fHolds1 at h
  refine FnOk.enter Try.func72 rfl Try.ntmps72 (Nat.le_of_ble_eq_true rfl) (fun M0 M w0 a hpl hst => ?_)
  replace hst : St M w0 10 [(0, ti i_), (1, tptr ((rSl rI).cs c0_))] [] a w0 := hst
  refine wp_seq_k (fun K1 hK1 => ?_)
  refine wp_reg mixed [] hst (fun _ => .p rfl (op_assign .k) <| .nil _ _) (by kernel_rfl) (fun n0 a w hst => ?_)
  replace hst : St M w0 10 [(0, ti i_), (1, tptr ((rSl rI).cs c0_))] [] a w := (hst.pick [1, 2])
  refine hK1 _ _ ?_
  try clear hK1 K1
  refine wp_seq_k (fun K2 hK2 => ?_)
  refine wp_seq_k (fun K3 hK3 => ?_)
  refine wp_reg mixed [] hst (fun _ => .p rfl (op_move (.t 0 rfl)) <| .p rfl (op_lss (.t 0 rfl) .k) <| .nil _ _) (by kernel_rfl) (fun n1 a w hst => ?_)
  replace hst : St M w0 10 [(5, tb (decide (i_ < (0:Int)))), (0, ti i_), (1, tptr ((rSl rI).cs c0_))] [] a w := (hst.pick [1, 2, 3])
  refine hK3 _ _ ?_
  try clear hK3 K3
  refine wp_test 0 hst rfl (fun b6 => ?_) (fun b6 => ?_)
  · replace h := ite_t b6 h
    refine wp_seq_k (fun K4 hK4 => ?_)
    refine wp_reg mixed [] hst (fun _ => .p rfl (op_assign .k) <| .nil _ _) (by kernel_rfl) (fun n2 a w hst => ?_)
    replace hst : St M w0 10 [(3, ti (0:Int))] [] a w := (hst.pick [0])
    refine hK4 _ _ ?_
    try clear hK4 K4
    refine wp_ret ?_
    obtain rfl := Option.some.inj h
    exact ret_st undef [] hpl hst rfl (.tmp (.t 0 rfl) .nil) rfl rfl rfl
  · replace h := ite_f b6 h
    refine wp_skip ?_
    refine hK2 _ _ ?_
    try clear hK2 K2
    refine wp_seq_k (fun K5 hK5 => ?_)
    obtain ⟨t8, ht8, h⟩ := bind_some h
    refine wp_reg mixed [] hst (fun _ => .p rfl (op_load tok22 (.t 2 rfl)) <| .p rfl (op_move (.t 2 rfl)) <| .p rfl (op_index Try.underlying22 tok3 (.t 1 rfl) (.t 0 rfl) ht8) <| .p rfl (op_load tok3 (.t 0 rfl)) <| .p rfl (op_assign (.t 0 rfl)) <| .nil _ _) (by kernel_rfl) (fun n3 a w hst => ?_)
    replace hst : St M w0 10 [(3, ti t8)] [] a w := (hst.pick [4])
    refine hK5 _ _ ?_
    try clear hK5 K5
    refine wp_ret ?_
    obtain rfl := Option.some.inj h
    exact ret_st undef [] hpl hst rfl (.tmp (.t 0 rfl) .nil) rfl rfl rfl

/- slices.IndexFunc[[]diorama/bounds.Diff,diorama/bounds.Diff] -/
noncomputable def fIndexD (s_ : (List SDiff)) (f_ : (SDiff → Option Bool)) : Option (Int) := (tailrec (fun (s4 : Int) => ((if (decide (s4 < (s_.length : Int))) = true then (idx s_ s4).bind fun t14 => (f_ t14).bind fun t16 => (if t16 = true then (some (.inr (.inr s4))) else (some (.inl (IntKind.i64.wrap (s4 + (1:Int)))))) else (some (.inr (.inl ())))) : Option ((Int) ⊕ ((Unit) ⊕ (Int))))) (0:Int)).bind fun (e5 : (Unit) ⊕ (Int)) => (match e5 with | .inl p14 => (some (-1:Int)) | .inr p15 => (some p15))
set_option maxRecDepth 100000 in
set_option maxHeartbeats 4000000 in
theorem IndexD_ok {s_ : (List SDiff)} {f_ : (SDiff → Option Bool)} {r : Int} (h : fIndexD s_ f_ = some r) : FnOk Try.prog 73 [tsl rSDiff s_, tpred Try.prog rSDiff f_] [] (fun _ => []) (fun _ => ti r) := by
  unfold fIndexD at h
  refine FnOk.enter Try.func73 rfl Try.ntmps73 (Nat.le_of_ble_eq_true rfl) (fun M0 M w0 a hpl hst => ?_)
  replace hst : St M w0 19 [(0, tsl rSDiff s_), (1, tpred Try.prog rSDiff f_)] [] a w0 := hst
  refine wp_seq_k (fun K1 hK1 => ?_)
  refine wp_reg mixed [] hst (fun _ => .p rfl (op_assign .k) <| .nil _ _) (by kernel_rfl) (fun n0 a w hst => ?_)
  replace hst : St M w0 19 [(0, tsl rSDiff s_), (1, tpred Try.prog rSDiff f_)] [] a w := (hst.pick [1, 2])
  refine hK1 _ _ ?_
  try clear hK1 K1
  refine wp_seq_k (fun K2 hK2 => ?_)
  refine wp_seq_k (fun K3 hK3 => ?_)
  refine wp_reg mixed [] hst (fun _ => .p rfl (op_move (.t 0 rfl)) <| .p rfl (op_len Try.underlying55 (.t 0 rfl)) <| .p rfl (op_move .k) <| .nil _ _) (by kernel_rfl) (fun n1 a w hst => ?_)
  replace hst : St M w0 19 [(7, ti (s_.length : Int)), (8, ti (0:Int)), (0, tsl rSDiff s_), (1, tpred Try.prog rSDiff f_)] [] a w := (hst.pick [1, 2, 3, 4])
  refine hK3 _ _ ?_
  try clear hK3 K3
  obtain ⟨e5, he5, h⟩ := bind_some h
  have hJp14 : ∀ (p14 : Unit) a w, (.inl p14) = e5 → St M w0 19 [] [] a w → K2 a w := by
    intro p14 a w he hst
    subst he
    simp only at h
    refine hK2 _ _ ?_
    try clear hK2 K2
    refine wp_seq_k (fun K16 hK16 => ?_)
    refine wp_reg mixed [] hst (fun _ => .p rfl (op_assign .k) <| .nil _ _) (by kernel_rfl) (fun n7 a w hst => ?_)
    replace hst : St M w0 19 [(4, ti (-1:Int))] [] a w := (hst.pick [0])
    refine hK16 _ _ ?_
    try clear hK16 K16
    refine wp_ret ?_
    obtain rfl := Option.some.inj h
    exact ret_st undef [] hpl hst rfl (.tmp (.t 0 rfl) .nil) rfl rfl rfl
  have hJp15 : ∀ (p15 : Int) a w, (.inr p15) = e5 → St M w0 19 [(4, ti p15)] [] a w → Ret Try.prog Try.f73 M0 [] w0 (fun _ => []) (fun _ => ti r) .ret a w := by
    intro p15 a w he hst
    subst he
    simp only at h
    obtain rfl := Option.some.inj h
    exact ret_st undef [] hpl hst rfl (.tmp (.t 0 rfl) .nil) rfl rfl rfl
  refine wp_block ?_
  refine wp_loopK _ (fun (s4 : Int) a w => St M w0 19 [(7, ti (s_.length : Int)), (8, ti s4), (0, tsl rSDiff s_), (1, tpred Try.prog rSDiff f_)] [] a w) _ _ he5 (hst.pick [0, 1, 2, 3]) ?_
  clear h
  intro s4 o a w K17 hI h ho hK17
  have hst := hI
  clear hI
  refine wp_seq_k (fun K18 hK18 => ?_)
  refine wp_reg mixed [] hst (fun _ => .p rfl (op_lss (.t 1 rfl) (.t 0 rfl)) <| .nil _ _) (by kernel_rfl) (fun n2 a w hst => ?_)
  replace hst : St M w0 19 [(9, tb (decide (s4 < (s_.length : Int)))), (7, ti (s_.length : Int)), (8, ti s4), (0, tsl rSDiff s_), (1, tpred Try.prog rSDiff f_)] [] a w := (hst.pick [0, 1, 2, 3, 4])
  refine hK18 _ _ ?_
  try clear hK18 K18
  refine wp_seq_k (fun K19 hK19 => ?_)
  refine wp_test 0 hst rfl (fun b25 => ?_) (fun b25 => ?_)
  · replace h := ite_t b25 h
    refine wp_skip ?_
    refine hK19 _ _ ?_
    try clear hK19 K19
    refine wp_seq_k (fun K20 hK20 => ?_)
    refine wp_block ?_
    refine wp_seq_k (fun K21 hK21 => ?_)
    refine wp_reg mixed [] hst (fun _ => .p rfl (op_move (.t 2 rfl)) <| .p rfl (op_assign (.t 0 rfl)) <| .nil _ _) (by kernel_rfl) (fun n3 a w hst => ?_)
    replace hst : St M w0 19 [(5, ti s4), (7, ti (s_.length : Int)), (8, ti s4), (0, tsl rSDiff s_), (1, tpred Try.prog rSDiff f_)] [] a w := (hst.pick [1, 3, 4, 5, 6])
    refine hK21 _ _ ?_
    try clear hK21 K21
    refine wp_seq_k (fun K22 hK22 => ?_)
    obtain ⟨t14, ht14, h⟩ := bind_some h
    obtain ⟨t16, ht16, h⟩ := bind_some h
    refine wp_reg mixed [] hst (fun _ => .p rfl (op_move (.t 4 rfl)) <| .p rfl (op_move (.t 4 rfl)) <| .p rfl (op_move (.t 2 rfl)) <| .p rfl (op_index Try.underlying55 tok72 (.t 1 rfl) (.t 0 rfl) ht14) <| .p rfl (op_load tok72 (.t 0 rfl)) <| .p rfl (op_callP (u := t14) (.t 4 rfl) (.t 0 rfl) ht16) <| .nil _ _) (by kernel_rfl) (fun n4 a w hst => ?_)
    replace hst : St M w0 19 [(16, tb t16), (5, ti s4), (7, ti (s_.length : Int)), (8, ti s4), (0, tsl rSDiff s_), (1, tpred Try.prog rSDiff f_)] [] a w := (hst.pick [5, 6, 7, 8, 9, 10])
    refine hK22 _ _ ?_
    try clear hK22 K22
    refine wp_test 0 hst rfl (fun b24 => ?_) (fun b24 => ?_)
    · replace h := ite_t b24 h
      refine wp_seq_k (fun K23 hK23 => ?_)
      refine wp_reg mixed [] hst (fun _ => .p rfl (op_move (.t 1 rfl)) <| .p rfl (op_assign (.t 0 rfl)) <| .nil _ _) (by kernel_rfl) (fun n5 a w hst => ?_)
      replace hst : St M w0 19 [(4, ti s4)] [] a w := (hst.pick [1])
      refine hK23 _ _ ?_
      try clear hK23 K23
      refine wp_ret ?_
      exact hJp15 _ _ _ (ho _ (Option.some.inj h).symm) (hst.pick [0])
    · replace h := ite_f b24 h
      refine wp_skip ?_
      refine hK20 _ _ ?_
      try clear hK20 K20
      refine wp_reg mixed [] hst (fun _ => .p rfl (op_add (.t 3 rfl) .k) <| .p rfl (op_move (.t 0 rfl)) <| .nil _ _) (by kernel_rfl) (fun n6 a w hst => ?_)
      replace hst : St M w0 19 [(8, ti (IntKind.i64.wrap (s4 + (1:Int)))), (7, ti (s_.length : Int)), (0, tsl rSDiff s_), (1, tpred Try.prog rSDiff f_)] [] a w := (hst.pick [1, 4, 5, 6])
      exact hK17 _ _ _ (Option.some.inj h).symm (hst.pick [1, 0, 2, 3])
  · replace h := ite_f b25 h
    refine wp_exit ?_
    exact hJp14 _ _ _ (ho _ (Option.some.inj h).symm) (hst.pick [])

/- diorama/bounds.Holds$2 -/
noncomputable def fHolds2 (d_ : SDiff) (c0_ : (List Int)) (c1_0 : (List Int)) : Option (Bool) := (opt (((decide ((imin (d_).A (d_).B) < (-1:Int))) || (decide ((imax (d_).A (d_).B) ≥ (c0_.length : Int)))) == false) (fHolds1 (d_).A c1_0) default).bind fun t25 => (opt (((decide ((imin (d_).A (d_).B) < (-1:Int))) || (decide ((imax (d_).A (d_).B) ≥ (c0_.length : Int)))) == false) (fHolds1 (d_).B c1_0) default).bind fun t29 => (some (((decide ((imin (d_).A (d_).B) < (-1:Int))) || (decide ((imax (d_).A (d_).B) ≥ (c0_.length : Int)))) || (decide (t25 > (IntKind.i64.wrap (t29 + (d_).N))))))
set_option maxRecDepth 100000 in
set_option maxHeartbeats 4000000 in
theorem Holds2_ok {d_ : SDiff} {c0_ : (List Int)} {c1_0 : (List Int)} {r : Bool} (h : fHolds2 d_ c0_ c1_0 = some r) : FnOk Try.prog 74 [rSDiff.ty d_, tptr ((rSl rI).cs c0_), tptr [tcloE 72 [tptr ((rSl rI).cs c1_0)]]] [] (fun _ => []) (fun _ => tb r) := by
  unfold fHolds2 at h
  refine FnOk.enter Try.func74 rfl Try.ntmps74 (Nat.le_of_ble_eq_true rfl) (fun M0 M w0 a hpl hst => ?_)
  replace hst : St M w0 35 [(0, rSDiff.ty d_), (1, tptr ((rSl rI).cs c0_)), (2, tptr [tcloE 72 [tptr ((rSl rI).cs c1_0)]])] [] a w0 := hst
  refine wp_seq_k (fun K1 hK1 => ?_)
  refine wp_reg mixed [] hst (fun _ => .p rfl (op_boxR (R := rSDiff) (u := d_) (.t 0 rfl)) <| .p rfl (op_assign .k) <| .nil _ _) (by kernel_rfl) (fun n0 a w hst => ?_)
  replace hst : St M w0 35 [(3, tptr (rSDiff.cs d_)), (1, tptr ((rSl rI).cs c0_)), (2, tptr [tcloE 72 [tptr ((rSl rI).cs c1_0)]])] [] a w := (hst.pick [0, 3, 4])
  refine hK1 _ _ ?_
  try clear hK1 K1
  refine wp_seq_k (fun K2 hK2 => ?_)
  obtain ⟨t25, ht25, h⟩ := bind_some h
  obtain ⟨t29, ht29, h⟩ := bind_some h
  refine wp_reg mixed [] hst (fun _ => .p rfl (op_field fld72_0 (.t 0 rfl)) <| .p rfl (op_loadT (u := (d_).A) tok3 (.t 0 rfl) rfl) <| .p rfl (op_field fld72_1 (.t 2 rfl)) <| .p rfl (op_loadT (u := (d_).B) tok3 (.t 0 rfl) rfl) <| .p rfl (op_min (.t 2 rfl) (.t 0 rfl)) <| .p rfl (op_lss (.t 0 rfl) .k) <| .p rfl (op_move (.t 0 rfl)) <| .g rfl rfl (.b 0 rfl) (fun _ => op_field fld72_0 (.t 7 rfl)) <| .g rfl rfl (.b 1 rfl) (fun hc => op_loadT (u := (d_).A) tok3 (.cond (.t 0 rfl) hc) rfl) <| .g rfl rfl (.b 2 rfl) (fun _ => op_field fld72_1 (.t 9 rfl)) <| .g rfl rfl (.b 3 rfl) (fun hc => op_loadT (u := (d_).B) tok3 (.cond (.t 0 rfl) hc) rfl) <| .g rfl rfl (.b 4 rfl) (fun hc => op_max (.cond (.t 2 rfl) hc) (.cond (.t 0 rfl) hc)) <| .g rfl rfl (.b 5 rfl) (fun _ => op_load tok22 (.t 13 rfl)) <| .g rfl rfl (.b 6 rfl) (fun hc => op_len Try.underlying22 (.cond (.t 0 rfl) hc)) <| .g rfl rfl (.b 7 rfl) (fun hc => op_geq (.cond (.t 2 rfl) hc) (.cond (.t 0 rfl) hc)) <| .p rfl (op_or (.t 8 rfl) (fun hp => (.cond (.t 0 rfl) (beqF hp)))) <| .p rfl (op_move (.t 0 rfl)) <| .g rfl rfl (.b 0 rfl) (fun _ => op_load (R := rCloE 72 [tptr ((rSl rI).cs c1_0)]) (u := ()) tokC96 (.t 19 rfl)) <| .g rfl rfl (.b 1 rfl) (fun _ => op_field fld72_0 (.t 18 rfl)) <| .g rfl rfl (.b 2 rfl) (fun hc => op_loadT (u := (d_).A) tok3 (.cond (.t 0 rfl) hc) rfl) <| .g rfl rfl (.b 3 rfl) (fun hc => op_callC call72 (Holds1_ok (opt_t ht25 hc)) (.cond (.t 2 rfl) hc) (.cons (.of (.cond (.t 0 rfl) hc)) <| .nil)) <| .g rfl rfl (.b 4 rfl) (fun _ => op_load (R := rCloE 72 [tptr ((rSl rI).cs c1_0)]) (u := ()) tokC96 (.t 23 rfl)) <| .g rfl rfl (.b 5 rfl) (fun _ => op_field fld72_1 (.t 22 rfl)) <| .g rfl rfl (.b 6 rfl) (fun hc => op_loadT (u := (d_).B) tok3 (.cond (.t 0 rfl) hc) rfl) <| .g rfl rfl (.b 7 rfl) (fun hc => op_callC call72 (Holds1_ok (opt_t ht29 hc)) (.cond (.t 2 rfl) hc) (.cons (.of (.cond (.t 0 rfl) hc)) <| .nil)) <| .g rfl rfl (.b 8 rfl) (fun _ => op_field fld72_2 (.t 25 rfl)) <| .g rfl rfl (.b 9 rfl) (fun hc => op_loadT (u := (d_).N) tok3 (.cond (.t 0 rfl) hc) rfl) <| .g rfl rfl (.b 10 rfl) (fun hc => op_add (.cond (.t 2 rfl) hc) (.cond (.t 0 rfl) hc)) <| .g rfl rfl (.b 11 rfl) (fun hc => op_gtr (.cond (.t 7 rfl) hc) (.cond (.t 0 rfl) hc)) <| .p rfl (op_or (.t 12 rfl) (fun hp => (.cond (.t 0 rfl) (beqF hp)))) <| .p rfl (op_assign (.t 0 rfl)) <| .nil _ _) (by kernel_rfl) (fun n1 a w hst => ?_)
  replace hst : St M w0 35 [(4, tb (((decide ((imin (d_).A (d_).B) < (-1:Int))) || (decide ((imax (d_).A (d_).B) ≥ (c0_.length : Int)))) || (decide (t25 > (IntKind.i64.wrap (t29 + (d_).N))))))] [] a w := (hst.pick [30])
  refine hK2 _ _ ?_
  try clear hK2 K2
  refine wp_ret ?_
  obtain rfl := Option.some.inj h
  exact ret_st undef [] hpl hst rfl (.tmp (.t 0 rfl) .nil) rfl rfl rfl

/- diorama/bounds.Holds -/
noncomputable def fHolds (l_ : (List SDiff)) (values_ : (List Int)) : Option (Int) := (fIndexD l_ (fun x => fHolds2 x values_ values_)).bind fun t9 => (some t9)
set_option maxRecDepth 100000 in
set_option maxHeartbeats 4000000 in
theorem Holds_ok {l_ : (List SDiff)} {values_ : (List Int)} {r : Int} (h : fHolds l_ values_ = some r) : FnOk Try.prog 42 [tsl rSDiff l_, tsl rI values_] [] (fun _ => []) (fun _ => ti r) := by
  unfold fHolds at h
  refine FnOk.enter Try.func42 rfl Try.ntmps42 (Nat.le_of_ble_eq_true rfl) (fun M0 M w0 a hpl hst => ?_)
  replace hst : St M w0 10 [(0, tsl rSDiff l_), (1, tsl rI values_)] [] a w0 := hst
  refine wp_seq_k (fun K1 hK1 => ?_)
  refine wp_reg mixed [] hst (fun _ => .p rfl (op_boxR (R := (rSl rI)) (u := values_) (.t 1 rfl)) <| .p rfl (op_assign .k) <| .nil _ _) (by kernel_rfl) (fun n0 a w hst => ?_)
  replace hst : St M w0 10 [(3, tptr ((rSl rI).cs values_)), (0, tsl rSDiff l_)] [] a w := (hst.pick [0, 2])
  refine hK1 _ _ ?_
  try clear hK1 K1
  refine wp_seq_k (fun K2 hK2 => ?_)
  refine wp_reg mixed [v1 1 (fun v0 => box (rClo.cs (none : Option (FuncId × List Value))) v0), v1 1 (fun v0 => box ((rCloE 72 [tptr ((rSl rI).cs values_)]).cs ()) v0)] hst (fun _ => .p rfl (op_clo (.cons (.t 0 rfl) <| .nil)) <| .m [] [0] rfl rfl rfl (op_alloc (R := rClo) (a := (none : Option (FuncId × List Value))) tok96 zok96) <| .e [] [0] [1] rfl rfl rfl rfl (op_storeB (R := rCloE 72 [tptr ((rSl rI).cs values_)]) (a := ()) tokC96 (.t 0 rfl) (.t 1 rfl) (Nat.le_of_ble_eq_true rfl)) <| .nil _ _) (by kernel_rfl) (fun n1 a w hst => ?_)
  replace hst : St M w0 10 [(5, tptr [tcloE 72 [tptr ((rSl rI).cs values_)]]), (3, tptr ((rSl rI).cs values_)), (0, tsl rSDiff l_)] [] a w := ((((hst.pick [1, 2, 3]).shareB 0 rfl).add 0 rfl (fun _ _ _ h => h.2)).pick [0, 3, 4])
  refine hK2 _ _ ?_
  try clear hK2 K2
  refine wp_seq_k (fun K4 hK4 => ?_)
  obtain ⟨t9, ht9, h⟩ := bind_some h
  refine wp_reg mixed [] hst (fun _ => .p rfl (op_move (.t 2 rfl)) <| .p rfl (op_clo (.cons (.t 2 rfl) <| .cons (.t 1 rfl) <| .nil)) <| .p rfl (op_callF call73 (IndexD_ok ht9) (.cons (.of (.t 1 rfl)) <| .cons (.of (Fct.weak (.t 0 rfl) (pred_of (R := rSDiff) call74 (fun _ _ hq => Holds2_ok hq)))) <| .nil)) <| .p rfl (op_assign (.t 0 rfl)) <| .nil _ _) (by kernel_rfl) (fun n2 a w hst => ?_)
  replace hst : St M w0 10 [(4, ti t9)] [] a w := (hst.pick [3])
  refine hK4 _ _ ?_
  try clear hK4 K4
  refine wp_ret ?_
  obtain rfl := Option.some.inj h
  exact ret_st undef [] hpl hst rfl (.tmp (.t 0 rfl) .nil) rfl rfl rfl

/- diorama/dioramaref14.Keeps -/
noncomputable def fKeeps (d_ : SDiff) (values_ : (List Int)) : Option (Bool) := (if ((((decide ((d_).A < (-1:Int))) || (decide ((d_).A ≥ (values_.length : Int)))) || (decide ((d_).B < (-1:Int)))) || (decide ((d_).B ≥ (values_.length : Int)))) = true then (some false) else ((if (decide ((d_).A ≥ (0:Int))) = true then (idx values_ (d_).A).bind fun t35 => (some t35) else (some (0:Int)))).bind fun (p9 : Int) => ((if (decide ((d_).B ≥ (0:Int))) = true then (idx values_ (d_).B).bind fun t43 => (some t43) else (some (0:Int)))).bind fun (p13 : Int) => (some (decide (p9 ≤ (IntKind.i64.wrap (p13 + (d_).N))))))
set_option maxRecDepth 100000 in
set_option maxHeartbeats 4000000 in
theorem Keeps_ok {d_ : SDiff} {values_ : (List Int)} {r : Bool} (h : fKeeps d_ values_ = some r) : FnOk Try.prog 75 [rSDiff.ty d_, tsl rI values_] [] (fun _ => []) (fun _ => tb r) := by
  unfold fKeeps at h
  refine FnOk.enter Try.func75 rfl Try.ntmps75 (Nat.le_of_ble_eq_true rfl) (fun M0 M w0 a hpl hst => ?_)
  replace hst : St M w0 51 [(0, rSDiff.ty d_), (1, tsl rI values_)] [] a w0 := hst
  refine wp_seq_k (fun K1 hK1 => ?_)
  refine wp_reg mixed [] hst (fun _ => .p rfl (op_boxR (R := rSDiff) (u := d_) (.t 0 rfl)) <| .p rfl (op_assign .k) <| .nil _ _) (by kernel_rfl) (fun n0 a w hst => ?_)
  replace hst : St M w0 51 [(2, tptr (rSDiff.cs d_)), (1, tsl rI values_)] [] a w := (hst.pick [0, 3])
  refine hK1 _ _ ?_
  try clear hK1 K1
  refine wp_seq_k (fun K2 hK2 => ?_)
  refine wp_seq_k (fun K3 hK3 => ?_)
  refine wp_reg mixed [] hst (fun _ => .p rfl (op_field fld71_0 (.t 0 rfl)) <| .p rfl (op_loadT (u := (d_).A) tok3 (.t 0 rfl) rfl) <| .p rfl (op_lss (.t 0 rfl) .k) <| .p rfl (op_move (.t 0 rfl)) <| .g rfl rfl (.b 0 rfl) (fun _ => op_field fld71_0 (.t 4 rfl)) <| .g rfl rfl (.b 1 rfl) (fun hc => op_loadT (u := (d_).A) tok3 (.cond (.t 0 rfl) hc) rfl) <| .g rfl rfl (.b 2 rfl) (fun _ => op_move (.t 7 rfl)) <| .g rfl rfl (.b 3 rfl) (fun hc => op_len Try.underlying22 (.cond (.t 0 rfl) hc)) <| .g rfl rfl (.b 4 rfl) (fun hc => op_geq (.cond (.t 2 rfl) hc) (.cond (.t 0 rfl) hc)) <| .p rfl (op_or (.t 5 rfl) (fun hp => (.cond (.t 0 rfl) (beqF hp)))) <| .p rfl (op_move (.t 0 rfl)) <| .g rfl rfl (.b 0 rfl) (fun _ => op_field fld71_1 (.t 11 rfl)) <| .g rfl rfl (.b 1 rfl) (fun hc => op_loadT (u := (d_).B) tok3 (.cond (.t 0 rfl) hc) rfl) <| .g rfl rfl (.b 2 rfl) (fun hc => op_lss (.cond (.t 0 rfl) hc) .k) <| .p rfl (op_or (.t 3 rfl) (fun hp => (.cond (.t 0 rfl) (beqF hp)))) <| .p rfl (op_move (.t 0 rfl)) <| .g rfl rfl (.b 0 rfl) (fun _ => op_field fld71_1 (.t 16 rfl)) <| .g rfl rfl (.b 1 rfl) (fun hc => op_loadT (u := (d_).B) tok3 (.cond (.t 0 rfl) hc) rfl) <| .g rfl rfl (.b 2 rfl) (fun _ => op_move (.t 19 rfl)) <| .g rfl rfl (.b 3 rfl) (fun hc => op_len Try.underlying22 (.cond (.t 0 rfl) hc)) <| .g rfl rfl (.b 4 rfl) (fun hc => op_geq (.cond (.t 2 rfl) hc) (.cond (.t 0 rfl) hc)) <| .p rfl (op_or (.t 5 rfl) (fun hp => (.cond (.t 0 rfl) (beqF hp)))) <| .nil _ _) (by kernel_rfl) (fun n1 a w hst => ?_)
  replace hst : St M w0 51 [(28, tb ((((decide ((d_).A < (-1:Int))) || (decide ((d_).A ≥ (values_.length : Int)))) || (decide ((d_).B < (-1:Int)))) || (decide ((d_).B ≥ (values_.length : Int))))), (2, tptr (rSDiff.cs d_)), (1, tsl rI values_)] [] a w := (hst.pick [21, 22, 23])
  refine hK3 _ _ ?_
  try clear hK3 K3
  refine wp_test 0 hst rfl (fun b18 => ?_) (fun b18 => ?_)
  · replace h := ite_t b18 h
    refine wp_seq_k (fun K4 hK4 => ?_)
    refine wp_reg mixed [] hst (fun _ => .p rfl (op_assign .k) <| .nil _ _) (by kernel_rfl) (fun n2 a w hst => ?_)
    replace hst : St M w0 51 [(4, tb false)] [] a w := (hst.pick [0])
    refine hK4 _ _ ?_
    try clear hK4 K4
    refine wp_ret ?_
    obtain rfl := Option.some.inj h
    exact ret_st undef [] hpl hst rfl (.tmp (.t 0 rfl) .nil) rfl rfl rfl
  · replace h := ite_f b18 h
    refine wp_skip ?_
    refine hK2 _ _ ?_
    try clear hK2 K2
    refine wp_seq_k (fun K5 hK5 => ?_)
    refine wp_reg mixed [] hst (fun _ => .p rfl (op_assign .k) <| .nil _ _) (by kernel_rfl) (fun n3 a w hst => ?_)
    replace hst : St M w0 51 [(5, ti (0:Int)), (2, tptr (rSDiff.cs d_)), (1, tsl rI values_)] [] a w := (hst.pick [0, 2, 3])
    refine hK5 _ _ ?_
    try clear hK5 K5
    refine wp_seq_k (fun K6 hK6 => ?_)
    refine wp_reg mixed [] hst (fun _ => .p rfl (op_assign .k) <| .nil _ _) (by kernel_rfl) (fun n4 a w hst => ?_)
    replace hst : St M w0 51 [(6, ti (0:Int)), (5, ti (0:Int)), (2, tptr (rSDiff.cs d_)), (1, tsl rI values_)] [] a w := (hst.pick [0, 1, 2, 3])
    refine hK6 _ _ ?_
    try clear hK6 K6
    refine wp_seq_k (fun K7 hK7 => ?_)
    refine wp_seq_k (fun K8 hK8 => ?_)
    refine wp_reg mixed [] hst (fun _ => .p rfl (op_field fld71_0 (.t 2 rfl)) <| .p rfl (op_loadT (u := (d_).A) tok3 (.t 0 rfl) rfl) <| .p rfl (op_geq (.t 0 rfl) .k) <| .nil _ _) (by kernel_rfl) (fun n5 a w hst => ?_)
    replace hst : St M w0 51 [(31, tb (decide ((d_).A ≥ (0:Int)))), (6, ti (0:Int)), (5, ti (0:Int)), (2, tptr (rSDiff.cs d_)), (1, tsl rI values_)] [] a w := (hst.pick [2, 3, 4, 5, 6])
    refine hK8 _ _ ?_
    try clear hK8 K8
    obtain ⟨p9, hp9, h⟩ := bind_some h
    have hJp9 : ∀ a w, St M w0 51 [(5, ti p9), (6, ti (0:Int)), (2, tptr (rSDiff.cs d_)), (1, tsl rI values_)] [] a w → K7 a w := by
      intro a w hst
      refine hK7 _ _ ?_
      try clear hK7 K7
      refine wp_seq_k (fun K11 hK11 => ?_)
      refine wp_seq_k (fun K12 hK12 => ?_)
      refine wp_reg mixed [] hst (fun _ => .p rfl (op_field fld71_1 (.t 2 rfl)) <| .p rfl (op_loadT (u := (d_).B) tok3 (.t 0 rfl) rfl) <| .p rfl (op_geq (.t 0 rfl) .k) <| .nil _ _) (by kernel_rfl) (fun n7 a w hst => ?_)
      replace hst : St M w0 51 [(39, tb (decide ((d_).B ≥ (0:Int)))), (5, ti p9), (6, ti (0:Int)), (2, tptr (rSDiff.cs d_)), (1, tsl rI values_)] [] a w := (hst.pick [2, 3, 4, 5, 6])
      refine hK12 _ _ ?_
      try clear hK12 K12
      obtain ⟨p13, hp13, h⟩ := bind_some h
      have hJp13 : ∀ a w, St M w0 51 [(6, ti p13), (5, ti p9), (2, tptr (rSDiff.cs d_))] [] a w → K11 a w := by
        intro a w hst
        refine hK11 _ _ ?_
        try clear hK11 K11
        refine wp_seq_k (fun K15 hK15 => ?_)
        refine wp_reg mixed [] hst (fun _ => .p rfl (op_move (.t 1 rfl)) <| .p rfl (op_move (.t 1 rfl)) <| .p rfl (op_field fld71_2 (.t 4 rfl)) <| .p rfl (op_loadT (u := (d_).N) tok3 (.t 0 rfl) rfl) <| .p rfl (op_add (.t 2 rfl) (.t 0 rfl)) <| .p rfl (op_leq (.t 4 rfl) (.t 0 rfl)) <| .p rfl (op_assign (.t 0 rfl)) <| .nil _ _) (by kernel_rfl) (fun n9 a w hst => ?_)
        replace hst : St M w0 51 [(4, tb (decide (p9 ≤ (IntKind.i64.wrap (p13 + (d_).N)))))] [] a w := (hst.pick [6])
        refine hK15 _ _ ?_
        try clear hK15 K15
        refine wp_ret ?_
        obtain rfl := Option.some.inj h
        exact ret_st undef [] hpl hst rfl (.tmp (.t 0 rfl) .nil) rfl rfl rfl
      replace h := hp13
      clear hp13
      refine wp_test 0 hst rfl (fun b16 => ?_) (fun b16 => ?_)
      · replace h := ite_t b16 h
        obtain ⟨t43, ht43, h⟩ := bind_some h
        refine wp_reg mixed [] hst (fun _ => .p rfl (op_move (.t 4 rfl)) <| .p rfl (op_field fld71_1 (.t 4 rfl)) <| .p rfl (op_loadT (u := (d_).B) tok3 (.t 0 rfl) rfl) <| .p rfl (op_index Try.underlying22 tok3 (.t 2 rfl) (.t 0 rfl) ht43) <| .p rfl (op_load tok3 (.t 0 rfl)) <| .p rfl (op_assign (.t 0 rfl)) <| .nil _ _) (by kernel_rfl) (fun n8 a w hst => ?_)
        replace hst : St M w0 51 [(6, ti t43), (5, ti p9), (2, tptr (rSDiff.cs d_))] [] a w := (hst.pick [5, 7, 8])
        obtain rfl := Option.some.inj h
        exact hJp13 _ _ (hst.pick [0, 1, 2])
      · replace h := ite_f b16 h
        refine wp_skip ?_
        obtain rfl := Option.some.inj h
        exact hJp13 _ _ (hst.pick [2, 1, 3])
    replace h := hp9
    clear hp9
    refine wp_test 0 hst rfl (fun b17 => ?_) (fun b17 => ?_)
    · replace h := ite_t b17 h
      obtain ⟨t35, ht35, h⟩ := bind_some h
      refine wp_reg mixed [] hst (fun _ => .p rfl (op_move (.t 4 rfl)) <| .p rfl (op_field fld71_0 (.t 4 rfl)) <| .p rfl (op_loadT (u := (d_).A) tok3 (.t 0 rfl) rfl) <| .p rfl (op_index Try.underlying22 tok3 (.t 2 rfl) (.t 0 rfl) ht35) <| .p rfl (op_load tok3 (.t 0 rfl)) <| .p rfl (op_assign (.t 0 rfl)) <| .nil _ _) (by kernel_rfl) (fun n6 a w hst => ?_)
      replace hst : St M w0 51 [(5, ti t35), (6, ti (0:Int)), (2, tptr (rSDiff.cs d_)), (1, tsl rI values_)] [] a w := (hst.pick [5, 7, 8, 9])
      obtain rfl := Option.some.inj h
      exact hJp9 _ _ (hst.pick [0, 1, 2, 3])
    · replace h := ite_f b17 h
      refine wp_skip ?_
      obtain rfl := Option.some.inj h
      exact hJp9 _ _ (hst.pick [2, 1, 3, 4])

/- diorama/dioramaref14.Holds -/
noncomputable def fHoldsR (l_ : (List SDiff)) (values_ : (List Int)) : Option (Int) := (tailrec (fun (s4 : Int) => ((if (decide (s4 < (l_.length : Int))) = true then (idx l_ s4).bind fun t14 => (fKeeps t14 values_).bind fun t17 => (if (!t17) = true then (some (.inr (.inr s4))) else (some (.inl (IntKind.i64.wrap (s4 + (1:Int)))))) else (some (.inr (.inl ())))) : Option ((Int) ⊕ ((Unit) ⊕ (Int))))) (0:Int)).bind fun (e5 : (Unit) ⊕ (Int)) => (match e5 with | .inl p13 => (some (-1:Int)) | .inr p14 => (some p14))
set_option maxRecDepth 100000 in
set_option maxHeartbeats 4000000 in
theorem HoldsR_ok {l_ : (List SDiff)} {values_ : (List Int)} {r : Int} (h : fHoldsR l_ values_ = some r) : FnOk Try.prog 43 [tsl rSDiff l_, tsl rI values_] [] (fun _ => []) (fun _ => ti r) := by
  unfold fHoldsR at h
  refine FnOk.enter Try.func43 rfl Try.ntmps43 (Nat.le_of_ble_eq_true rfl) (fun M0 M w0 a hpl hst => ?_)
  replace hst : St M w0 20 [(0, tsl rSDiff l_), (1, tsl rI values_)] [] a w0 := hst
  refine wp_seq_k (fun K1 hK1 => ?_)
  refine wp_reg mixed [] hst (fun _ => .p rfl (op_assign .k) <| .nil _ _) (by kernel_rfl) (fun n0 a w hst => ?_)
  replace hst : St M w0 20 [(0, tsl rSDiff l_), (1, tsl rI values_)] [] a w := (hst.pick [1, 2])
  refine hK1 _ _ ?_
  try clear hK1 K1
  refine wp_seq_k (fun K2 hK2 => ?_)
  refine wp_seq_k (fun K3 hK3 => ?_)
  refine wp_reg mixed [] hst (fun _ => .p rfl (op_assign .k) <| .nil _ _) (by kernel_rfl) (fun n1 a w hst => ?_)
  replace hst : St M w0 20 [(5, ti (0:Int)), (0, tsl rSDiff l_), (1, tsl rI values_)] [] a w := (hst.pick [0, 1, 2])
  refine hK3 _ _ ?_
  try clear hK3 K3
  obtain ⟨e5, he5, h⟩ := bind_some h
  have hJp13 : ∀ (p13 : Unit) a w, (.inl p13) = e5 → St M w0 20 [] [] a w → K2 a w := by
    intro p13 a w he hst
    subst he
    simp only at h
    refine hK2 _ _ ?_
    try clear hK2 K2
    refine wp_seq_k (fun K15 hK15 => ?_)
    refine wp_reg mixed [] hst (fun _ => .p rfl (op_assign .k) <| .nil _ _) (by kernel_rfl) (fun n6 a w hst => ?_)
    replace hst : St M w0 20 [(4, ti (-1:Int))] [] a w := (hst.pick [0])
    refine hK15 _ _ ?_
    try clear hK15 K15
    refine wp_ret ?_
    obtain rfl := Option.some.inj h
    exact ret_st undef [] hpl hst rfl (.tmp (.t 0 rfl) .nil) rfl rfl rfl
  have hJp14 : ∀ (p14 : Int) a w, (.inr p14) = e5 → St M w0 20 [(4, ti p14)] [] a w → Ret Try.prog Try.f43 M0 [] w0 (fun _ => []) (fun _ => ti r) .ret a w := by
    intro p14 a w he hst
    subst he
    simp only at h
    obtain rfl := Option.some.inj h
    exact ret_st undef [] hpl hst rfl (.tmp (.t 0 rfl) .nil) rfl rfl rfl
  refine wp_block ?_
  refine wp_loopK _ (fun (s4 : Int) a w => St M w0 20 [(5, ti s4), (0, tsl rSDiff l_), (1, tsl rI values_)] [] a w) _ _ he5 (hst.pick [0, 1, 2]) ?_
  clear h
  intro s4 o a w K16 hI h ho hK16
  have hst := hI
  clear hI
  refine wp_seq_k (fun K17 hK17 => ?_)
  refine wp_seq_k (fun K18 hK18 => ?_)
  refine wp_reg mixed [] hst (fun _ => .p rfl (op_move (.t 0 rfl)) <| .p rfl (op_move (.t 2 rfl)) <| .p rfl (op_len Try.underlying48 (.t 0 rfl)) <| .p rfl (op_lss (.t 2 rfl) (.t 0 rfl)) <| .nil _ _) (by kernel_rfl) (fun n2 a w hst => ?_)
  replace hst : St M w0 20 [(9, tb (decide (s4 < (l_.length : Int)))), (5, ti s4), (0, tsl rSDiff l_), (1, tsl rI values_)] [] a w := (hst.pick [3, 4, 5, 6])
  refine hK18 _ _ ?_
  try clear hK18 K18
  refine wp_test 0 hst rfl (fun b23 => ?_) (fun b23 => ?_)
  · replace h := ite_t b23 h
    refine wp_skip ?_
    refine hK17 _ _ ?_
    try clear hK17 K17
    refine wp_seq_k (fun K19 hK19 => ?_)
    refine wp_block ?_
    refine wp_seq_k (fun K20 hK20 => ?_)
    obtain ⟨t14, ht14, h⟩ := bind_some h
    obtain ⟨t17, ht17, h⟩ := bind_some h
    refine wp_reg mixed [] hst (fun _ => .p rfl (op_move (.t 2 rfl)) <| .p rfl (op_move (.t 2 rfl)) <| .p rfl (op_index Try.underlying48 tok71 (.t 1 rfl) (.t 0 rfl) ht14) <| .p rfl (op_load tok71 (.t 0 rfl)) <| .p rfl (op_move (.t 7 rfl)) <| .p rfl (op_callF call75 (Keeps_ok ht17) (.cons (.of (.t 1 rfl)) <| .cons (.of (.t 0 rfl)) <| .nil)) <| .p rfl (op_not (.t 0 rfl)) <| .nil _ _) (by kernel_rfl) (fun n4 a w hst => ?_)
    replace hst : St M w0 20 [(18, tb (!t17)), (5, ti s4), (0, tsl rSDiff l_), (1, tsl rI values_)] [] a w := (hst.pick [6, 8, 9, 10])
    refine hK20 _ _ ?_
    try clear hK20 K20
    refine wp_test 0 hst rfl (fun b22 => ?_) (fun b22 => ?_)
    · replace h := ite_t b22 h
      refine wp_seq_k (fun K21 hK21 => ?_)
      refine wp_reg mixed [] hst (fun _ => .p rfl (op_move (.t 1 rfl)) <| .p rfl (op_assign (.t 0 rfl)) <| .nil _ _) (by kernel_rfl) (fun n5 a w hst => ?_)
      replace hst : St M w0 20 [(4, ti s4)] [] a w := (hst.pick [1])
      refine hK21 _ _ ?_
      try clear hK21 K21
      refine wp_ret ?_
      exact hJp14 _ _ _ (ho _ (Option.some.inj h).symm) (hst.pick [0])
    · replace h := ite_f b22 h
      refine wp_skip ?_
      refine hK19 _ _ ?_
      try clear hK19 K19
      refine wp_reg mixed [] hst (fun _ => .p rfl (op_move (.t 1 rfl)) <| .p rfl (op_add (.t 0 rfl) .k) <| .p rfl (op_assign (.t 0 rfl)) <| .nil _ _) (by kernel_rfl) (fun n3 a w hst => ?_)
      replace hst : St M w0 20 [(5, ti (IntKind.i64.wrap (s4 + (1:Int)))), (0, tsl rSDiff l_), (1, tsl rI values_)] [] a w := (hst.pick [2, 4, 5])
      exact hK16 _ _ _ (Option.some.inj h).symm (hst.pick [0, 1, 2])
  · replace h := ite_f b23 h
    refine wp_exit ?_
    exact hJp13 _ _ _ (ho _ (Option.some.inj h).symm) (hst.pick [])


end Go.Proofs.Ytjniiejgccdhiaa
