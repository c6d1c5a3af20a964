/- Go functions as Lean functions, and the proofs that they compute them, written by a program. No condition. -/
import Derived.Test.YtjniiejgccdhiaaBenF
namespace Go.Proofs.Ytjniiejgccdhiaa
open Go.Sim

/- diorama/dioramalaw14.BoundsCloses -/
noncomputable def fBoundsCloses (l_ : (List Int)) (at_ : Int) (how_ : Int) (by_ : Int) (n_ : Int) : Option (Bool) := (fMade14 l_).bind fun t28 => (fBent t28.2 at_ how_ by_).bind fun t35 => (fBent t35 by_ (IntKind.i64.wrap (Int.tdiv how_ (6:Int))) at_).bind fun t43 => (fAround n_ (13:Int)).bind fun t47 => (tailrec (fun (s8 : Int) => ((if (decide (s8 < ([t28.2, t35, t43, ([] : (List SDiff))].length : Int))) = true then (tailrec (fun (s50 : Int) => ((if (decide (s50 < (3:Int))) = true then (idx [t28.1, (IntKind.i64.wrap (t47 - (1:Int))), n_] s50).bind fun t64 => (idx [t28.2, t35, t43, ([] : (List SDiff))] s8).bind fun t68 => (fown14 t68).bind fun t70 => (fClose t64 t70).bind fun t71 => (idx [t28.1, (IntKind.i64.wrap (t47 - (1:Int))), n_] s50).bind fun t77 => (idx [t28.2, t35, t43, ([] : (List SDiff))] s8).bind fun t81 => (fCloseR t77 t81).bind fun t83 => (idx [t28.1, (IntKind.i64.wrap (t47 - (1:Int))), n_] s50).bind fun t89 => (idx [t28.2, t35, t43, ([] : (List SDiff))] s8).bind fun t93 => (fown14 t93).bind fun t95 => (fCycle t89 t95).bind fun t96 => (idx [t28.1, (IntKind.i64.wrap (t47 - (1:Int))), n_] s50).bind fun t102 => (idx [t28.2, t35, t43, ([] : (List SDiff))] s8).bind fun t106 => (fCycleR t102 t106).bind fun t108 => (opt (((t71.2 != t83.2) || (t96.2 != t108.2)) == false) (fSameTables t71.1 t83.1) default).bind fun t122 => (opt ((((t71.2 != t83.2) || (t96.2 != t108.2)) || (!t122)) == false) (fSameInts t96.1 t108.1) default).bind fun t128 => (if ((((t71.2 != t83.2) || (t96.2 != t108.2)) || (!t122)) || (!t128)) = true then (some (.inr (.inr false))) else (some (.inl (IntKind.i64.wrap (s50 + (1:Int)))))) else (some (.inr (.inl ())))) : Option ((Int) ⊕ ((Unit) ⊕ (Bool))))) (0:Int)).bind fun (e51 : (Unit) ⊕ (Bool)) => (match e51 with | .inl p63 => (some (.inl (IntKind.i64.wrap (s8 + (1:Int))))) | .inr p64 => (some (.inr (.inr p64)))) else (some (.inr (.inl ())))) : Option ((Int) ⊕ ((Unit) ⊕ (Bool))))) (0:Int)).bind fun (e9 : (Unit) ⊕ (Bool)) => (match e9 with | .inl p42 => (flives14).bind fun t131 => (some t131) | .inr p43 => (some p43))
set_option maxRecDepth 100000 in
set_option maxHeartbeats 4000000 in
theorem BoundsCloses_ok {l_ : (List Int)} {at_ : Int} {how_ : Int} {by_ : Int} {n_ : Int} {r : Bool} (h : fBoundsCloses l_ at_ how_ by_ n_ = some r) : FnOk Try.prog 6 [tsl rI l_, ti at_, ti how_, ti by_, ti n_] [] (fun _ => []) (fun _ => tb r) := by
  unfold fBoundsCloses at h
  refine FnOk.enter Try.func6 rfl Try.ntmps6 (Nat.le_of_ble_eq_true rfl) (fun M0 M w0 a hpl hst => ?_)
  replace hst : St M w0 132 [(0, tsl rI l_), (1, ti at_), (2, ti how_), (3, ti by_), (4, ti n_)] [] a w0 := hst
  refine wp_seq_k (fun K1 hK1 => ?_)
  refine wp_reg mixed [] hst (fun _ => .p rfl (op_assign .k) <| .nil _ _) (by kernel_rfl) (fun n0 a w hst => ?_)
  replace hst : St M w0 132 [(0, tsl rI l_), (1, ti at_), (2, ti how_), (3, ti by_), (4, ti n_)] [] a w := (hst.pick [1, 2, 3, 4, 5])
  refine hK1 _ _ ?_
  try clear hK1 K1
  refine wp_seq_k (fun K2 hK2 => ?_)
  obtain ⟨t28, ht28, h⟩ := bind_some h
  refine wp_reg mixed [] hst (fun _ => .p rfl (op_move (.t 0 rfl)) <| .p rfl (op_callF call29 ((Made14_ok ht28).ro ro_tup1) (.cons (.of (.t 0 rfl)) <| .nil)) <| .p rfl (op_move (.t 0 rfl)) <| .p rfl (op_extract (.t 0 rfl) rfl) <| .p rfl (op_extract (.t 1 rfl) rfl) <| .p rfl (op_assign (.t 1 rfl)) <| .p rfl (op_assign (.t 1 rfl)) <| .nil _ _) (by kernel_rfl) (fun n1 a w hst => ?_)
  replace hst : St M w0 132 [(11, ti t28.1), (12, tsl rSDiff t28.2), (1, ti at_), (2, ti how_), (3, ti by_), (4, ti n_)] [] a w := (hst.pick [5, 6, 8, 9, 10, 11])
  refine hK2 _ _ ?_
  try clear hK2 K2
  refine wp_seq_k (fun K3 hK3 => ?_)
  obtain ⟨t35, ht35, h⟩ := bind_some h
  refine wp_reg mixed [] hst (fun _ => .p rfl (op_move (.t 1 rfl)) <| .p rfl (op_move (.t 3 rfl)) <| .p rfl (op_move (.t 5 rfl)) <| .p rfl (op_move (.t 7 rfl)) <| .p rfl (op_callF call30 ((Bent_ok ht35).ro ro_self) (.cons (.of (.t 3 rfl)) <| .cons (.of (.t 2 rfl)) <| .cons (.of (.t 1 rfl)) <| .cons (.of (.t 0 rfl)) <| .nil)) <| .p rfl (op_assign (.t 0 rfl)) <| .nil _ _) (by kernel_rfl) (fun n2 a w hst => ?_)
  replace hst : St M w0 132 [(13, tsl rSDiff t35), (11, ti t28.1), (12, tsl rSDiff t28.2), (1, ti at_), (2, ti how_), (3, ti by_), (4, ti n_)] [] a w := (hst.pick [5, 6, 7, 8, 9, 10, 11])
  refine hK3 _ _ ?_
  try clear hK3 K3
  refine wp_seq_k (fun K4 hK4 => ?_)
  obtain ⟨t43, ht43, h⟩ := bind_some h
  refine wp_reg mixed [] hst (fun _ => .p rfl (op_move (.t 2 rfl)) <| .p rfl (op_move (.t 1 rfl)) <| .p rfl (op_move (.t 2 rfl)) <| .p rfl (op_move (.t 8 rfl)) <| .p rfl (op_move (.t 8 rfl)) <| .p rfl (op_quo (.t 0 rfl) .k (by decide)) <| .p rfl (op_move (.t 9 rfl)) <| .p rfl (op_callF call30 ((Bent_ok ht43).ro ro_self) (.cons (.of (.t 4 rfl)) <| .cons (.of (.t 3 rfl)) <| .cons (.of (.t 1 rfl)) <| .cons (.of (.t 0 rfl)) <| .nil)) <| .p rfl (op_buildSl (R := (rSl rSDiff)) (us := [t28.2, t35, t43, ([] : (List SDiff))]) Try.underlying52 tok48 (.cons (.t 7 rfl) <| .cons (.t 6 rfl) <| .cons (.t 0 rfl) <| .cons .nilsl <| .nil _) rfl (Nat.le_of_ble_eq_true rfl)) <| .p rfl (op_assign (.t 0 rfl)) <| .nil _ _) (by kernel_rfl) (fun n3 a w hst => ?_)
  replace hst : St M w0 132 [(14, tsl (rSl rSDiff) [t28.2, t35, t43, ([] : (List SDiff))]), (11, ti t28.1), (4, ti n_)] [] a w := (hst.pick [9, 11, 16])
  refine hK4 _ _ ?_
  try clear hK4 K4
  refine wp_seq_k (fun K5 hK5 => ?_)
  obtain ⟨t47, ht47, h⟩ := bind_some h
  refine wp_reg mixed [] hst (fun _ => .p rfl (op_move (.t 1 rfl)) <| .p rfl (op_move (.t 3 rfl)) <| .p rfl (op_callF call13 (Around_ok ht47) (.cons (.of (.t 0 rfl)) <| .cons (.of .k) <| .nil)) <| .p rfl (op_sub (.t 0 rfl) .k) <| .p rfl (op_move (.t 6 rfl)) <| .p rfl (op_buildSl (R := rI) (us := [t28.1, (IntKind.i64.wrap (t47 - (1:Int))), n_]) Try.underlying22 tok3 (.cons (.t 4 rfl) <| .cons (.t 1 rfl) <| .cons (.t 0 rfl) <| .nil _) rfl (Nat.le_of_ble_eq_true rfl)) <| .p rfl (op_assign (.t 0 rfl)) <| .nil _ _) (by kernel_rfl) (fun n4 a w hst => ?_)
  replace hst : St M w0 132 [(15, tsl rI [t28.1, (IntKind.i64.wrap (t47 - (1:Int))), n_]), (14, tsl (rSl rSDiff) [t28.2, t35, t43, ([] : (List SDiff))])] [] a w := (hst.pick [6, 7])
  refine hK5 _ _ ?_
  try clear hK5 K5
  refine wp_seq_k (fun K6 hK6 => ?_)
  refine wp_seq_k (fun K7 hK7 => ?_)
  refine wp_reg mixed [] hst (fun _ => .p rfl (op_assign .k) <| .nil _ _) (by kernel_rfl) (fun n5 a w hst => ?_)
  replace hst : St M w0 132 [(16, ti (0:Int)), (15, tsl rI [t28.1, (IntKind.i64.wrap (t47 - (1:Int))), n_]), (14, tsl (rSl rSDiff) [t28.2, t35, t43, ([] : (List SDiff))])] [] a w := (hst.pick [0, 1, 2])
  refine hK7 _ _ ?_
  try clear hK7 K7
  obtain ⟨e9, he9, h⟩ := bind_some h
  have hJp42 : ∀ (p42 : Unit) a w, (.inl p42) = e9 → St M w0 132 [] [] a w → K6 a w := by
    intro p42 a w he hst
    subst he
    simp only at h
    refine hK6 _ _ ?_
    try clear hK6 K6
    refine wp_seq_k (fun K44 hK44 => ?_)
    obtain ⟨t131, ht131, h⟩ := bind_some h
    refine wp_reg mixed [] hst (fun _ => .p rfl (op_callF call37 (lives14_ok ht131) (.nil)) <| .p rfl (op_assign (.t 0 rfl)) <| .nil _ _) (by kernel_rfl) (fun n17 a w hst => ?_)
    replace hst : St M w0 132 [(10, tb t131)] [] a w := (hst.pick [1])
    refine hK44 _ _ ?_
    try clear hK44 K44
    refine wp_ret ?_
    obtain rfl := Option.some.inj h
    exact ret_st undef [] hpl hst rfl (.tmp (.t 0 rfl) .nil) rfl rfl rfl
  have hJp43 : ∀ (p43 : Bool) a w, (.inr p43) = e9 → St M w0 132 [(10, tb p43)] [] a w → Ret Try.prog Try.f6 M0 [] w0 (fun _ => []) (fun _ => tb r) .ret a w := by
    intro p43 a w he hst
    subst he
    simp only at h
    obtain rfl := Option.some.inj h
    exact ret_st undef [] hpl hst rfl (.tmp (.t 0 rfl) .nil) rfl rfl rfl
  refine wp_block ?_
  refine wp_loopK _ (fun (s8 : Int) a w => St M w0 132 [(16, ti s8), (15, tsl rI [t28.1, (IntKind.i64.wrap (t47 - (1:Int))), n_]), (14, tsl (rSl rSDiff) [t28.2, t35, t43, ([] : (List SDiff))])] [] a w) _ _ he9 (hst.pick [0, 1, 2]) ?_
  clear h
  intro s8 o a w K45 hI h ho hK45
  have hst := hI
  clear hI
  refine wp_seq_k (fun K46 hK46 => ?_)
  refine wp_seq_k (fun K47 hK47 => ?_)
  refine wp_reg mixed [] hst (fun _ => .p rfl (op_move (.t 0 rfl)) <| .p rfl (op_move (.t 3 rfl)) <| .p rfl (op_len Try.underlying52 (.t 0 rfl)) <| .p rfl (op_lss (.t 2 rfl) (.t 0 rfl)) <| .nil _ _) (by kernel_rfl) (fun n6 a w hst => ?_)
  replace hst : St M w0 132 [(54, tb (decide (s8 < ([t28.2, t35, t43, ([] : (List SDiff))].length : Int)))), (16, ti s8), (15, tsl rI [t28.1, (IntKind.i64.wrap (t47 - (1:Int))), n_]), (14, tsl (rSl rSDiff) [t28.2, t35, t43, ([] : (List SDiff))])] [] a w := (hst.pick [3, 4, 5, 6])
  refine hK47 _ _ ?_
  try clear hK47 K47
  refine wp_test 0 hst rfl (fun b77 => ?_) (fun b77 => ?_)
  · replace h := ite_t b77 h
    refine wp_skip ?_
    refine hK46 _ _ ?_
    try clear hK46 K46
    refine wp_seq_k (fun K48 hK48 => ?_)
    refine wp_block ?_
    refine wp_seq_k (fun K49 hK49 => ?_)
    refine wp_reg mixed [] hst (fun _ => .p rfl (op_assign .k) <| .nil _ _) (by kernel_rfl) (fun n8 a w hst => ?_)
    replace hst : St M w0 132 [(17, ti (0:Int)), (16, ti s8), (15, tsl rI [t28.1, (IntKind.i64.wrap (t47 - (1:Int))), n_]), (14, tsl (rSl rSDiff) [t28.2, t35, t43, ([] : (List SDiff))])] [] a w := (hst.pick [0, 2, 3, 4])
    refine hK49 _ _ ?_
    try clear hK49 K49
    obtain ⟨e51, he51, h⟩ := bind_some h
    have hJp63 : ∀ (p63 : Unit) a w, (.inl p63) = e51 → St M w0 132 [(16, ti s8), (15, tsl rI [t28.1, (IntKind.i64.wrap (t47 - (1:Int))), n_]), (14, tsl (rSl rSDiff) [t28.2, t35, t43, ([] : (List SDiff))])] [] a w → K48 a w := by
      intro p63 a w he hst
      subst he
      simp only at h
      refine hK48 _ _ ?_
      try clear hK48 K48
      refine wp_reg mixed [] hst (fun _ => .p rfl (op_move (.t 0 rfl)) <| .p rfl (op_add (.t 0 rfl) .k) <| .p rfl (op_assign (.t 0 rfl)) <| .nil _ _) (by kernel_rfl) (fun n7 a w hst => ?_)
      replace hst : St M w0 132 [(16, ti (IntKind.i64.wrap (s8 + (1:Int)))), (15, tsl rI [t28.1, (IntKind.i64.wrap (t47 - (1:Int))), n_]), (14, tsl (rSl rSDiff) [t28.2, t35, t43, ([] : (List SDiff))])] [] a w := (hst.pick [2, 3, 4])
      exact hK45 _ _ _ (Option.some.inj h).symm (hst.pick [0, 1, 2])
    have hJp64 : ∀ (p64 : Bool) a w, (.inr p64) = e51 → St M w0 132 [(10, tb p64)] [] a w → Ret Try.prog Try.f6 M0 [] w0 (fun _ => []) (fun _ => tb r) .ret a w := by
      intro p64 a w he hst
      subst he
      simp only at h
      exact hJp43 _ _ _ (ho _ (Option.some.inj h).symm) (hst.pick [0])
    refine wp_block ?_
    refine wp_loopK _ (fun (s50 : Int) a w => St M w0 132 [(17, ti s50), (16, ti s8), (15, tsl rI [t28.1, (IntKind.i64.wrap (t47 - (1:Int))), n_]), (14, tsl (rSl rSDiff) [t28.2, t35, t43, ([] : (List SDiff))])] [] a w) _ _ he51 (hst.pick [0, 1, 2, 3]) ?_
    clear h
    intro s50 o a w K65 hI h ho hK65
    have hst := hI
    clear hI
    refine wp_seq_k (fun K66 hK66 => ?_)
    refine wp_seq_k (fun K67 hK67 => ?_)
    refine wp_reg mixed [] hst (fun _ => .p rfl (op_move (.t 0 rfl)) <| .p rfl (op_lss (.t 0 rfl) .k) <| .nil _ _) (by kernel_rfl) (fun n9 a w hst => ?_)
    replace hst : St M w0 132 [(58, tb (decide (s50 < (3:Int)))), (17, ti s50), (16, ti s8), (15, tsl rI [t28.1, (IntKind.i64.wrap (t47 - (1:Int))), n_]), (14, tsl (rSl rSDiff) [t28.2, t35, t43, ([] : (List SDiff))])] [] a w := (hst.pick [1, 2, 3, 4, 5])
    refine hK67 _ _ ?_
    try clear hK67 K67
    refine wp_test 0 hst rfl (fun b76 => ?_) (fun b76 => ?_)
    · replace h := ite_t b76 h
      refine wp_skip ?_
      refine hK66 _ _ ?_
      try clear hK66 K66
      refine wp_seq_k (fun K68 hK68 => ?_)
      refine wp_block ?_
      refine wp_seq_k (fun K69 hK69 => ?_)
      obtain ⟨t64, ht64, h⟩ := bind_some h
      obtain ⟨t68, ht68, h⟩ := bind_some h
      obtain ⟨t70, ht70, h⟩ := bind_some h
      obtain ⟨t71, ht71, h⟩ := bind_some h
      refine wp_reg mixed [] hst (fun _ => .p rfl (op_move (.t 3 rfl)) <| .p rfl (op_move (.t 2 rfl)) <| .p rfl (op_index Try.underlying22 tok3 (.t 1 rfl) (.t 0 rfl) ht64) <| .p rfl (op_load tok3 (.t 0 rfl)) <| .p rfl (op_move (.t 8 rfl)) <| .p rfl (op_move (.t 7 rfl)) <| .p rfl (op_index Try.underlying52 tok48 (.t 1 rfl) (.t 0 rfl) ht68) <| .p rfl (op_load tok48 (.t 0 rfl)) <| .p rfl (op_callF call32 ((own14_ok ht70).ro ro_self) (.cons (.of (.t 0 rfl)) <| .nil)) <| .p rfl (op_callF call31 (Close_ok ht71) (.cons (.of (.t 5 rfl)) <| .cons (.of (.t 0 rfl)) <| .nil)) <| .p rfl (op_move (.t 0 rfl)) <| .p rfl (op_extract (.t 0 rfl) rfl) <| .p rfl (op_extract (.t 1 rfl) rfl) <| .p rfl (op_assign (.t 1 rfl)) <| .p rfl (op_assign (.t 1 rfl)) <| .nil _ _) (by kernel_rfl) (fun n11 a w hst => ?_)
      replace hst : St M w0 132 [(18, tsl (rSl rI) t71.1), (19, ti t71.2), (17, ti s50), (16, ti s8), (15, tsl rI [t28.1, (IntKind.i64.wrap (t47 - (1:Int))), n_]), (14, tsl (rSl rSDiff) [t28.2, t35, t43, ([] : (List SDiff))])] [] a w := (hst.pick [13, 14, 16, 17, 18, 19])
      refine hK69 _ _ ?_
      try clear hK69 K69
      refine wp_seq_k (fun K70 hK70 => ?_)
      obtain ⟨t77, ht77, h⟩ := bind_some h
      obtain ⟨t81, ht81, h⟩ := bind_some h
      obtain ⟨t83, ht83, h⟩ := bind_some h
      refine wp_reg mixed [] hst (fun _ => .p rfl (op_move (.t 4 rfl)) <| .p rfl (op_move (.t 3 rfl)) <| .p rfl (op_index Try.underlying22 tok3 (.t 1 rfl) (.t 0 rfl) ht77) <| .p rfl (op_load tok3 (.t 0 rfl)) <| .p rfl (op_move (.t 9 rfl)) <| .p rfl (op_move (.t 8 rfl)) <| .p rfl (op_index Try.underlying52 tok48 (.t 1 rfl) (.t 0 rfl) ht81) <| .p rfl (op_load tok48 (.t 0 rfl)) <| .p rfl (op_callF call33 (CloseR_ok ht83) (.cons (.of (.t 4 rfl)) <| .cons (.of (.t 0 rfl)) <| .nil)) <| .p rfl (op_move (.t 0 rfl)) <| .p rfl (op_extract (.t 0 rfl) rfl) <| .p rfl (op_extract (.t 1 rfl) rfl) <| .p rfl (op_assign (.t 1 rfl)) <| .p rfl (op_assign (.t 1 rfl)) <| .nil _ _) (by kernel_rfl) (fun n12 a w hst => ?_)
      replace hst : St M w0 132 [(20, tsl (rSl rI) t83.1), (21, ti t83.2), (18, tsl (rSl rI) t71.1), (19, ti t71.2), (17, ti s50), (16, ti s8), (15, tsl rI [t28.1, (IntKind.i64.wrap (t47 - (1:Int))), n_]), (14, tsl (rSl rSDiff) [t28.2, t35, t43, ([] : (List SDiff))])] [] a w := (hst.pick [12, 13, 14, 15, 16, 17, 18, 19])
      refine hK70 _ _ ?_
      try clear hK70 K70
      refine wp_seq_k (fun K71 hK71 => ?_)
      obtain ⟨t89, ht89, h⟩ := bind_some h
      obtain ⟨t93, ht93, h⟩ := bind_some h
      obtain ⟨t95, ht95, h⟩ := bind_some h
      obtain ⟨t96, ht96, h⟩ := bind_some h
      refine wp_reg mixed [] hst (fun _ => .p rfl (op_move (.t 6 rfl)) <| .p rfl (op_move (.t 5 rfl)) <| .p rfl (op_index Try.underlying22 tok3 (.t 1 rfl) (.t 0 rfl) ht89) <| .p rfl (op_load tok3 (.t 0 rfl)) <| .p rfl (op_move (.t 11 rfl)) <| .p rfl (op_move (.t 10 rfl)) <| .p rfl (op_index Try.underlying52 tok48 (.t 1 rfl) (.t 0 rfl) ht93) <| .p rfl (op_load tok48 (.t 0 rfl)) <| .p rfl (op_callF call32 ((own14_ok ht95).ro ro_self) (.cons (.of (.t 0 rfl)) <| .nil)) <| .p rfl (op_callF call34 (Cycle_ok ht96) (.cons (.of (.t 5 rfl)) <| .cons (.of (.t 0 rfl)) <| .nil)) <| .p rfl (op_move (.t 0 rfl)) <| .p rfl (op_extract (.t 0 rfl) rfl) <| .p rfl (op_extract (.t 1 rfl) rfl) <| .p rfl (op_assign (.t 1 rfl)) <| .p rfl (op_assign (.t 1 rfl)) <| .nil _ _) (by kernel_rfl) (fun n13 a w hst => ?_)
      replace hst : St M w0 132 [(22, tsl rI t96.1), (23, ti t96.2), (20, tsl (rSl rI) t83.1), (21, ti t83.2), (18, tsl (rSl rI) t71.1), (19, ti t71.2), (17, ti s50), (16, ti s8), (15, tsl rI [t28.1, (IntKind.i64.wrap (t47 - (1:Int))), n_]), (14, tsl (rSl rSDiff) [t28.2, t35, t43, ([] : (List SDiff))])] [] a w := (hst.pick [13, 14, 15, 16, 17, 18, 19, 20, 21, 22])
      refine hK71 _ _ ?_
      try clear hK71 K71
      refine wp_seq_k (fun K72 hK72 => ?_)
      obtain ⟨t102, ht102, h⟩ := bind_some h
      obtain ⟨t106, ht106, h⟩ := bind_some h
      obtain ⟨t108, ht108, h⟩ := bind_some h
      refine wp_reg mixed [] hst (fun _ => .p rfl (op_move (.t 8 rfl)) <| .p rfl (op_move (.t 7 rfl)) <| .p rfl (op_index Try.underlying22 tok3 (.t 1 rfl) (.t 0 rfl) ht102) <| .p rfl (op_load tok3 (.t 0 rfl)) <| .p rfl (op_move (.t 13 rfl)) <| .p rfl (op_move (.t 12 rfl)) <| .p rfl (op_index Try.underlying52 tok48 (.t 1 rfl) (.t 0 rfl) ht106) <| .p rfl (op_load tok48 (.t 0 rfl)) <| .p rfl (op_callF call35 (CycleR_ok ht108) (.cons (.of (.t 4 rfl)) <| .cons (.of (.t 0 rfl)) <| .nil)) <| .p rfl (op_move (.t 0 rfl)) <| .p rfl (op_extract (.t 0 rfl) rfl) <| .p rfl (op_extract (.t 1 rfl) rfl) <| .p rfl (op_assign (.t 1 rfl)) <| .p rfl (op_assign (.t 1 rfl)) <| .nil _ _) (by kernel_rfl) (fun n14 a w hst => ?_)
      replace hst : St M w0 132 [(24, tsl rI t108.1), (25, ti t108.2), (22, tsl rI t96.1), (23, ti t96.2), (20, tsl (rSl rI) t83.1), (21, ti t83.2), (18, tsl (rSl rI) t71.1), (19, ti t71.2), (17, ti s50), (16, ti s8), (15, tsl rI [t28.1, (IntKind.i64.wrap (t47 - (1:Int))), n_]), (14, tsl (rSl rSDiff) [t28.2, t35, t43, ([] : (List SDiff))])] [] a w := (hst.pick [12, 13, 14, 15, 16, 17, 18, 19, 20, 21, 22, 23])
      refine hK72 _ _ ?_
      try clear hK72 K72
      refine wp_seq_k (fun K73 hK73 => ?_)
      obtain ⟨t122, ht122, h⟩ := bind_some h
      obtain ⟨t128, ht128, h⟩ := bind_some h
      refine wp_reg mixed [] hst (fun _ => .p rfl (op_move (.t 7 rfl)) <| .p rfl (op_move (.t 6 rfl)) <| .p rfl (op_neq (.t 1 rfl) (.t 0 rfl)) <| .p rfl (op_move (.t 0 rfl)) <| .g rfl rfl (.b 0 rfl) (fun _ => op_move (.t 7 rfl)) <| .g rfl rfl (.b 1 rfl) (fun _ => op_move (.t 6 rfl)) <| .g rfl rfl (.b 2 rfl) (fun hc => op_neq (.cond (.t 1 rfl) hc) (.cond (.t 0 rfl) hc)) <| .p rfl (op_or (.t 3 rfl) (fun hp => (.cond (.t 0 rfl) (beqF hp)))) <| .p rfl (op_move (.t 0 rfl)) <| .g rfl rfl (.b 0 rfl) (fun _ => op_move (.t 15 rfl)) <| .g rfl rfl (.b 1 rfl) (fun _ => op_move (.t 14 rfl)) <| .g rfl rfl (.b 2 rfl) (fun hc => op_callF call36 (SameTables_ok (opt_t ht122 hc)) (.cons (.of (.cond (.t 1 rfl) hc)) <| .cons (.of (.cond (.t 0 rfl) hc)) <| .nil)) <| .g rfl rfl (.b 3 rfl) (fun hc => op_not (.cond (.t 0 rfl) hc)) <| .p rfl (op_or (.t 4 rfl) (fun hp => (.cond (.t 0 rfl) (beqF hp)))) <| .p rfl (op_move (.t 0 rfl)) <| .g rfl rfl (.b 0 rfl) (fun _ => op_move (.t 17 rfl)) <| .g rfl rfl (.b 1 rfl) (fun _ => op_move (.t 16 rfl)) <| .g rfl rfl (.b 2 rfl) (fun hc => op_callF call18 (SameInts_ok (opt_t ht128 hc)) (.cons (.of (.cond (.t 1 rfl) hc)) <| .cons (.of (.cond (.t 0 rfl) hc)) <| .nil)) <| .g rfl rfl (.b 3 rfl) (fun hc => op_not (.cond (.t 0 rfl) hc)) <| .p rfl (op_or (.t 4 rfl) (fun hp => (.cond (.t 0 rfl) (beqF hp)))) <| .nil _ _) (by kernel_rfl) (fun n15 a w hst => ?_)
      replace hst : St M w0 132 [(130, tb ((((t71.2 != t83.2) || (t96.2 != t108.2)) || (!t122)) || (!t128))), (17, ti s50), (16, ti s8), (15, tsl rI [t28.1, (IntKind.i64.wrap (t47 - (1:Int))), n_]), (14, tsl (rSl rSDiff) [t28.2, t35, t43, ([] : (List SDiff))])] [] a w := (hst.pick [19, 28, 29, 30, 31])
      refine hK73 _ _ ?_
      try clear hK73 K73
      refine wp_test 0 hst rfl (fun b75 => ?_) (fun b75 => ?_)
      · replace h := ite_t b75 h
        refine wp_seq_k (fun K74 hK74 => ?_)
        refine wp_reg mixed [] hst (fun _ => .p rfl (op_assign .k) <| .nil _ _) (by kernel_rfl) (fun n16 a w hst => ?_)
        replace hst : St M w0 132 [(10, tb false)] [] a w := (hst.pick [0])
        refine hK74 _ _ ?_
        try clear hK74 K74
        refine wp_ret ?_
        exact hJp64 _ _ _ (ho _ (Option.some.inj h).symm) (hst.pick [0])
      · replace h := ite_f b75 h
        refine wp_skip ?_
        refine hK68 _ _ ?_
        try clear hK68 K68
        refine wp_reg mixed [] hst (fun _ => .p rfl (op_move (.t 1 rfl)) <| .p rfl (op_add (.t 0 rfl) .k) <| .p rfl (op_assign (.t 0 rfl)) <| .nil _ _) (by kernel_rfl) (fun n10 a w hst => ?_)
        replace hst : St M w0 132 [(17, ti (IntKind.i64.wrap (s50 + (1:Int)))), (16, ti s8), (15, tsl rI [t28.1, (IntKind.i64.wrap (t47 - (1:Int))), n_]), (14, tsl (rSl rSDiff) [t28.2, t35, t43, ([] : (List SDiff))])] [] a w := (hst.pick [2, 4, 5, 6])
        exact hK65 _ _ _ (Option.some.inj h).symm (hst.pick [0, 1, 2, 3])
    · replace h := ite_f b76 h
      refine wp_exit ?_
      exact hJp63 _ _ _ (ho _ (Option.some.inj h).symm) (hst.pick [2, 3, 4])
  · replace h := ite_f b77 h
    refine wp_exit ?_
    exact hJp42 _ _ _ (ho _ (Option.some.inj h).symm) (hst.pick [])


end Go.Proofs.Ytjniiejgccdhiaa
