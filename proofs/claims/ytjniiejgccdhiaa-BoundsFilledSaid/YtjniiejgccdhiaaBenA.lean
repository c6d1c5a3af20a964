/- Go functions as Lean functions, and the proofs that they compute them, written by a program. No condition. -/
import Derived.Test.YtjniiejgccdhiaaBaseB
namespace Go.Proofs.Ytjniiejgccdhiaa
open Go.Sim

/- diorama/dioramaref01.Around -/
noncomputable def fAround (n_ : Int) (most_ : Int) : Option (Int) := ((if (decide (n_ < (0:Int))) = true then (some (IntKind.i64.wrap (0 - (IntKind.i64.wrap (n_ + (1:Int)))))) else (some n_))).bind fun (p4 : Int) => (if (decide (most_ < (1:Int))) = true then (some (0:Int)) else (nz most_).bind fun _ => (some (Int.tmod p4 most_)))
set_option maxRecDepth 100000 in
set_option maxHeartbeats 4000000 in
theorem Around_ok {n_ : Int} {most_ : Int} {r : Int} (h : fAround n_ most_ = some r) : FnOk Try.prog 13 [ti n_, ti most_] [] (fun _ => []) (fun _ => ti r) := by
  unfold fAround at h
  refine FnOk.enter Try.func13 rfl Try.ntmps13 (Nat.le_of_ble_eq_true rfl) (fun M0 M w0 a hpl hst => ?_)
  replace hst : St M w0 15 [(0, ti n_), (1, ti most_)] [] a w0 := hst
  refine wp_seq_k (fun K1 hK1 => ?_)
  refine wp_reg mixed [] hst (fun _ => .p rfl (op_assign .k) <| .nil _ _) (by kernel_rfl) (fun n0 a w hst => ?_)
  replace hst : St M w0 15 [(0, ti n_), (1, ti most_)] [] a w := (hst.pick [1, 2])
  refine hK1 _ _ ?_
  try clear hK1 K1
  refine wp_seq_k (fun K2 hK2 => ?_)
  refine wp_seq_k (fun K3 hK3 => ?_)
  refine wp_reg mixed [] hst (fun _ => .p rfl (op_move (.t 0 rfl)) <| .p rfl (op_lss (.t 0 rfl) .k) <| .nil _ _) (by kernel_rfl) (fun n1 a w hst => ?_)
  replace hst : St M w0 15 [(6, tb (decide (n_ < (0:Int)))), (0, ti n_), (1, ti most_)] [] a w := (hst.pick [1, 2, 3])
  refine hK3 _ _ ?_
  try clear hK3 K3
  obtain ⟨p4, hp4, h⟩ := bind_some h
  have hJp4 : ∀ a w, St M w0 15 [(0, ti p4), (1, ti most_)] [] a w → K2 a w := by
    intro a w hst
    refine hK2 _ _ ?_
    try clear hK2 K2
    refine wp_seq_k (fun K6 hK6 => ?_)
    refine wp_seq_k (fun K7 hK7 => ?_)
    refine wp_reg mixed [] hst (fun _ => .p rfl (op_move (.t 1 rfl)) <| .p rfl (op_lss (.t 0 rfl) .k) <| .nil _ _) (by kernel_rfl) (fun n3 a w hst => ?_)
    replace hst : St M w0 15 [(11, tb (decide (most_ < (1:Int)))), (0, ti p4), (1, ti most_)] [] a w := (hst.pick [1, 2, 3])
    refine hK7 _ _ ?_
    try clear hK7 K7
    refine wp_test 0 hst rfl (fun b10 => ?_) (fun b10 => ?_)
    · replace h := ite_t b10 h
      refine wp_seq_k (fun K8 hK8 => ?_)
      refine wp_reg mixed [] hst (fun _ => .p rfl (op_assign .k) <| .nil _ _) (by kernel_rfl) (fun n4 a w hst => ?_)
      replace hst : St M w0 15 [(4, ti (0:Int))] [] a w := (hst.pick [0])
      refine hK8 _ _ ?_
      try clear hK8 K8
      refine wp_ret ?_
      obtain rfl := Option.some.inj h
      exact ret_st undef [] hpl hst rfl (.tmp (.t 0 rfl) .nil) rfl rfl rfl
    · replace h := ite_f b10 h
      refine wp_skip ?_
      refine hK6 _ _ ?_
      try clear hK6 K6
      refine wp_seq_k (fun K9 hK9 => ?_)
      obtain ⟨u14, hu14, h⟩ := bind_some h
      refine wp_reg mixed [] hst (fun _ => .p rfl (op_move (.t 1 rfl)) <| .p rfl (op_move (.t 3 rfl)) <| .p rfl (op_rem (.t 1 rfl) (.t 0 rfl) (nz_ne hu14)) <| .p rfl (op_assign (.t 0 rfl)) <| .nil _ _) (by kernel_rfl) (fun n5 a w hst => ?_)
      replace hst : St M w0 15 [(4, ti (Int.tmod p4 most_))] [] a w := (hst.pick [3])
      refine hK9 _ _ ?_
      try clear hK9 K9
      refine wp_ret ?_
      obtain rfl := Option.some.inj h
      exact ret_st undef [] hpl hst rfl (.tmp (.t 0 rfl) .nil) rfl rfl rfl
  replace h := hp4
  clear hp4
  refine wp_test 0 hst rfl (fun b11 => ?_) (fun b11 => ?_)
  · replace h := ite_t b11 h
    refine wp_reg mixed [] hst (fun _ => .p rfl (op_move (.t 1 rfl)) <| .p rfl (op_add (.t 0 rfl) .k) <| .p rfl (op_neg (.t 0 rfl)) <| .p rfl (op_assign (.t 0 rfl)) <| .nil _ _) (by kernel_rfl) (fun n2 a w hst => ?_)
    replace hst : St M w0 15 [(0, ti (IntKind.i64.wrap (0 - (IntKind.i64.wrap (n_ + (1:Int)))))), (1, ti most_)] [] a w := (hst.pick [3, 5])
    obtain rfl := Option.some.inj h
    exact hJp4 _ _ (hst.pick [0, 1])
  · replace h := ite_f b11 h
    refine wp_skip ?_
    obtain rfl := Option.some.inj h
    exact hJp4 _ _ (hst.pick [1, 2])

/- diorama/dioramaref01.At -/
noncomputable def fAt (l_ : (List Int)) (i_ : Int) (most_ : Int) : Option (Int) := (if ((decide (i_ < (0:Int))) || (decide (i_ ≥ (l_.length : Int)))) = true then (some (0:Int)) else (idx l_ i_).bind fun t17 => (fAround t17 most_).bind fun t20 => (some t20))
set_option maxRecDepth 100000 in
set_option maxHeartbeats 4000000 in
theorem At_ok {l_ : (List Int)} {i_ : Int} {most_ : Int} {r : Int} (h : fAt l_ i_ most_ = some r) : FnOk Try.prog 44 [tsl rI l_, ti i_, ti most_] [] (fun _ => []) (fun _ => ti r) := by
  unfold fAt at h
  refine FnOk.enter Try.func44 rfl Try.ntmps44 (Nat.le_of_ble_eq_true rfl) (fun M0 M w0 a hpl hst => ?_)
  replace hst : St M w0 21 [(0, tsl rI l_), (1, ti i_), (2, ti most_)] [] a w0 := hst
  refine wp_seq_k (fun K1 hK1 => ?_)
  refine wp_reg mixed [] hst (fun _ => .p rfl (op_assign .k) <| .nil _ _) (by kernel_rfl) (fun n0 a w hst => ?_)
  replace hst : St M w0 21 [(0, tsl rI l_), (1, ti i_), (2, ti most_)] [] a w := (hst.pick [1, 2, 3])
  refine hK1 _ _ ?_
  try clear hK1 K1
  refine wp_seq_k (fun K2 hK2 => ?_)
  refine wp_seq_k (fun K3 hK3 => ?_)
  refine wp_reg mixed [] hst (fun _ => .p rfl (op_move (.t 1 rfl)) <| .p rfl (op_lss (.t 0 rfl) .k) <| .p rfl (op_move (.t 0 rfl)) <| .g rfl rfl (.b 0 rfl) (fun _ => op_move (.t 4 rfl)) <| .g rfl rfl (.b 1 rfl) (fun _ => op_move (.t 4 rfl)) <| .g rfl rfl (.b 2 rfl) (fun hc => op_len Try.underlying22 (.cond (.t 0 rfl) hc)) <| .g rfl rfl (.b 3 rfl) (fun hc => op_geq (.cond (.t 2 rfl) hc) (.cond (.t 0 rfl) hc)) <| .p rfl (op_or (.t 4 rfl) (fun hp => (.cond (.t 0 rfl) (beqF hp)))) <| .nil _ _) (by kernel_rfl) (fun n1 a w hst => ?_)
  replace hst : St M w0 21 [(14, tb ((decide (i_ < (0:Int))) || (decide (i_ ≥ (l_.length : Int))))), (0, tsl rI l_), (1, ti i_), (2, ti most_)] [] a w := (hst.pick [7, 8, 9, 10])
  refine hK3 _ _ ?_
  try clear hK3 K3
  refine wp_test 0 hst rfl (fun b6 => ?_) (fun b6 => ?_)
  · replace h := ite_t b6 h
    refine wp_seq_k (fun K4 hK4 => ?_)
    refine wp_reg mixed [] hst (fun _ => .p rfl (op_assign .k) <| .nil _ _) (by kernel_rfl) (fun n2 a w hst => ?_)
    replace hst : St M w0 21 [(6, ti (0:Int))] [] a w := (hst.pick [0])
    refine hK4 _ _ ?_
    try clear hK4 K4
    refine wp_ret ?_
    obtain rfl := Option.some.inj h
    exact ret_st undef [] hpl hst rfl (.tmp (.t 0 rfl) .nil) rfl rfl rfl
  · replace h := ite_f b6 h
    refine wp_skip ?_
    refine hK2 _ _ ?_
    try clear hK2 K2
    refine wp_seq_k (fun K5 hK5 => ?_)
    obtain ⟨t17, ht17, h⟩ := bind_some h
    obtain ⟨t20, ht20, h⟩ := bind_some h
    refine wp_reg mixed [] hst (fun _ => .p rfl (op_move (.t 1 rfl)) <| .p rfl (op_move (.t 3 rfl)) <| .p rfl (op_index Try.underlying22 tok3 (.t 1 rfl) (.t 0 rfl) ht17) <| .p rfl (op_load tok3 (.t 0 rfl)) <| .p rfl (op_move (.t 7 rfl)) <| .p rfl (op_callF call13 (Around_ok ht20) (.cons (.of (.t 1 rfl)) <| .cons (.of (.t 0 rfl)) <| .nil)) <| .p rfl (op_assign (.t 0 rfl)) <| .nil _ _) (by kernel_rfl) (fun n3 a w hst => ?_)
    replace hst : St M w0 21 [(6, ti t20)] [] a w := (hst.pick [6])
    refine hK5 _ _ ?_
    try clear hK5 K5
    refine wp_ret ?_
    obtain rfl := Option.some.inj h
    exact ret_st undef [] hpl hst rfl (.tmp (.t 0 rfl) .nil) rfl rfl rfl

/- diorama/dioramaref01.SameInts -/
noncomputable def fSameInts (a_ : (List Int)) (b_ : (List Int)) : Option (Bool) := (if ((a_.length : Int) != (b_.length : Int)) = true then (some false) else (tailrec (fun (s7 : Int) => ((if (decide (s7 < (a_.length : Int))) = true then (idx a_ s7).bind fun t19 => (idx b_ s7).bind fun t23 => (if (t19 != t23) = true then (some (.inr (.inr false))) else (some (.inl (IntKind.i64.wrap (s7 + (1:Int)))))) else (some (.inr (.inl ())))) : Option ((Int) ⊕ ((Unit) ⊕ (Bool))))) (0:Int)).bind fun (e8 : (Unit) ⊕ (Bool)) => (match e8 with | .inl p16 => (some true) | .inr p17 => (some p17)))
set_option maxRecDepth 100000 in
set_option maxHeartbeats 4000000 in
theorem SameInts_ok {a_ : (List Int)} {b_ : (List Int)} {r : Bool} (h : fSameInts a_ b_ = some r) : FnOk Try.prog 18 [tsl rI a_, tsl rI b_] [] (fun _ => []) (fun _ => tb r) := by
  unfold fSameInts at h
  refine FnOk.enter Try.func18 rfl Try.ntmps18 (Nat.le_of_ble_eq_true rfl) (fun M0 M w0 a hpl hst => ?_)
  replace hst : St M w0 26 [(0, tsl rI a_), (1, tsl rI b_)] [] a w0 := hst
  refine wp_seq_k (fun K1 hK1 => ?_)
  refine wp_reg mixed [] hst (fun _ => .p rfl (op_assign .k) <| .nil _ _) (by kernel_rfl) (fun n0 a w hst => ?_)
  replace hst : St M w0 26 [(0, tsl rI a_), (1, tsl rI b_)] [] a w := (hst.pick [1, 2])
  refine hK1 _ _ ?_
  try clear hK1 K1
  refine wp_seq_k (fun K2 hK2 => ?_)
  refine wp_seq_k (fun K3 hK3 => ?_)
  refine wp_reg mixed [] hst (fun _ => .p rfl (op_move (.t 0 rfl)) <| .p rfl (op_len Try.underlying22 (.t 0 rfl)) <| .p rfl (op_move (.t 3 rfl)) <| .p rfl (op_len Try.underlying22 (.t 0 rfl)) <| .p rfl (op_neq (.t 2 rfl) (.t 0 rfl)) <| .nil _ _) (by kernel_rfl) (fun n1 a w hst => ?_)
  replace hst : St M w0 26 [(10, tb ((a_.length : Int) != (b_.length : Int))), (0, tsl rI a_), (1, tsl rI b_)] [] a w := (hst.pick [4, 5, 6])
  refine hK3 _ _ ?_
  try clear hK3 K3
  refine wp_test 0 hst rfl (fun b27 => ?_) (fun b27 => ?_)
  · replace h := ite_t b27 h
    refine wp_seq_k (fun K4 hK4 => ?_)
    refine wp_reg mixed [] hst (fun _ => .p rfl (op_assign .k) <| .nil _ _) (by kernel_rfl) (fun n2 a w hst => ?_)
    replace hst : St M w0 26 [(4, tb false)] [] a w := (hst.pick [0])
    refine hK4 _ _ ?_
    try clear hK4 K4
    refine wp_ret ?_
    obtain rfl := Option.some.inj h
    exact ret_st undef [] hpl hst rfl (.tmp (.t 0 rfl) .nil) rfl rfl rfl
  · replace h := ite_f b27 h
    refine wp_skip ?_
    refine hK2 _ _ ?_
    try clear hK2 K2
    refine wp_seq_k (fun K5 hK5 => ?_)
    refine wp_seq_k (fun K6 hK6 => ?_)
    refine wp_reg mixed [] hst (fun _ => .p rfl (op_assign .k) <| .nil _ _) (by kernel_rfl) (fun n3 a w hst => ?_)
    replace hst : St M w0 26 [(5, ti (0:Int)), (0, tsl rI a_), (1, tsl rI b_)] [] a w := (hst.pick [0, 2, 3])
    refine hK6 _ _ ?_
    try clear hK6 K6
    obtain ⟨e8, he8, h⟩ := bind_some h
    have hJp16 : ∀ (p16 : Unit) a w, (.inl p16) = e8 → St M w0 26 [] [] a w → K5 a w := by
      intro p16 a w he hst
      subst he
      simp only at h
      refine hK5 _ _ ?_
      try clear hK5 K5
      refine wp_seq_k (fun K18 hK18 => ?_)
      refine wp_reg mixed [] hst (fun _ => .p rfl (op_assign .k) <| .nil _ _) (by kernel_rfl) (fun n8 a w hst => ?_)
      replace hst : St M w0 26 [(4, tb true)] [] a w := (hst.pick [0])
      refine hK18 _ _ ?_
      try clear hK18 K18
      refine wp_ret ?_
      obtain rfl := Option.some.inj h
      exact ret_st undef [] hpl hst rfl (.tmp (.t 0 rfl) .nil) rfl rfl rfl
    have hJp17 : ∀ (p17 : Bool) a w, (.inr p17) = e8 → St M w0 26 [(4, tb p17)] [] a w → Ret Try.prog Try.f18 M0 [] w0 (fun _ => []) (fun _ => tb r) .ret a w := by
      intro p17 a w he hst
      subst he
      simp only at h
      obtain rfl := Option.some.inj h
      exact ret_st undef [] hpl hst rfl (.tmp (.t 0 rfl) .nil) rfl rfl rfl
    refine wp_block ?_
    refine wp_loopK _ (fun (s7 : Int) a w => St M w0 26 [(5, ti s7), (0, tsl rI a_), (1, tsl rI b_)] [] a w) _ _ he8 (hst.pick [0, 1, 2]) ?_
    clear h
    intro s7 o a w K19 hI h ho hK19
    have hst := hI
    clear hI
    refine wp_seq_k (fun K20 hK20 => ?_)
    refine wp_seq_k (fun K21 hK21 => ?_)
    refine wp_reg mixed [] hst (fun _ => .p rfl (op_move (.t 0 rfl)) <| .p rfl (op_move (.t 2 rfl)) <| .p rfl (op_len Try.underlying22 (.t 0 rfl)) <| .p rfl (op_lss (.t 2 rfl) (.t 0 rfl)) <| .nil _ _) (by kernel_rfl) (fun n4 a w hst => ?_)
    replace hst : St M w0 26 [(14, tb (decide (s7 < (a_.length : Int)))), (5, ti s7), (0, tsl rI a_), (1, tsl rI b_)] [] a w := (hst.pick [3, 4, 5, 6])
    refine hK21 _ _ ?_
    try clear hK21 K21
    refine wp_test 0 hst rfl (fun b26 => ?_) (fun b26 => ?_)
    · replace h := ite_t b26 h
      refine wp_skip ?_
      refine hK20 _ _ ?_
      try clear hK20 K20
      refine wp_seq_k (fun K22 hK22 => ?_)
      refine wp_block ?_
      refine wp_seq_k (fun K23 hK23 => ?_)
      obtain ⟨t19, ht19, h⟩ := bind_some h
      obtain ⟨t23, ht23, h⟩ := bind_some h
      refine wp_reg mixed [] hst (fun _ => .p rfl (op_move (.t 2 rfl)) <| .p rfl (op_move (.t 2 rfl)) <| .p rfl (op_index Try.underlying22 tok3 (.t 1 rfl) (.t 0 rfl) ht19) <| .p rfl (op_load tok3 (.t 0 rfl)) <| .p rfl (op_move (.t 7 rfl)) <| .p rfl (op_move (.t 6 rfl)) <| .p rfl (op_index Try.underlying22 tok3 (.t 1 rfl) (.t 0 rfl) ht23) <| .p rfl (op_load tok3 (.t 0 rfl)) <| .p rfl (op_neq (.t 4 rfl) (.t 0 rfl)) <| .nil _ _) (by kernel_rfl) (fun n6 a w hst => ?_)
      replace hst : St M w0 26 [(25, tb (t19 != t23)), (5, ti s7), (0, tsl rI a_), (1, tsl rI b_)] [] a w := (hst.pick [8, 10, 11, 12])
      refine hK23 _ _ ?_
      try clear hK23 K23
      refine wp_test 0 hst rfl (fun b25 => ?_) (fun b25 => ?_)
      · replace h := ite_t b25 h
        refine wp_seq_k (fun K24 hK24 => ?_)
        refine wp_reg mixed [] hst (fun _ => .p rfl (op_assign .k) <| .nil _ _) (by kernel_rfl) (fun n7 a w hst => ?_)
        replace hst : St M w0 26 [(4, tb false)] [] a w := (hst.pick [0])
        refine hK24 _ _ ?_
        try clear hK24 K24
        refine wp_ret ?_
        exact hJp17 _ _ _ (ho _ (Option.some.inj h).symm) (hst.pick [0])
      · replace h := ite_f b25 h
        refine wp_skip ?_
        refine hK22 _ _ ?_
        try clear hK22 K22
        refine wp_reg mixed [] hst (fun _ => .p rfl (op_move (.t 1 rfl)) <| .p rfl (op_add (.t 0 rfl) .k) <| .p rfl (op_assign (.t 0 rfl)) <| .nil _ _) (by kernel_rfl) (fun n5 a w hst => ?_)
        replace hst : St M w0 26 [(5, ti (IntKind.i64.wrap (s7 + (1:Int)))), (0, tsl rI a_), (1, tsl rI b_)] [] a w := (hst.pick [2, 4, 5])
        exact hK19 _ _ _ (Option.some.inj h).symm (hst.pick [0, 1, 2])
    · replace h := ite_f b26 h
      refine wp_exit ?_
      exact hJp16 _ _ _ (ho _ (Option.some.inj h).symm) (hst.pick [])

/- slices.Clone[[]int,int] -/
noncomputable def fClone (s_ : (List Int)) : Option ((List Int)) := (rm (([] : List Int).length + s_.length)).bind fun _ => (some (([] : List Int) ++ s_))
set_option maxRecDepth 100000 in
set_option maxHeartbeats 4000000 in
theorem Clone_ok {s_ : (List Int)} {r : (List Int)} (h : fClone s_ = some r) : FnOk Try.prog 47 [tsl rI s_] [] (fun v => [own rI 3 r v]) (fun v => tv v) := by
  unfold fClone at h
  refine FnOk.enter Try.func47 rfl Try.ntmps47 (Nat.le_of_ble_eq_true rfl) (fun M0 M w0 a hpl hst => ?_)
  replace hst : St M w0 8 [(0, tsl rI s_)] [] a w0 := hst
  refine wp_seq_k (fun K1 hK1 => ?_)
  refine wp_reg mixed [] hst (fun _ => .p rfl (op_assign .k) <| .nil _ _) (by kernel_rfl) (fun n0 a w hst => ?_)
  replace hst : St M w0 8 [(0, tsl rI s_)] [] a w := (hst.pick [1])
  refine hK1 _ _ ?_
  try clear hK1 K1
  refine wp_seq_k (fun K2 hK2 => ?_)
  refine wp_seq_k (fun K3 hK3 => ?_)
  refine wp_reg mixed [] hst (fun _ => .p rfl (op_move (.t 0 rfl)) <| .p rfl (op_eqNil' Try.underlying22 (.t 0 rfl)) <| .nil _ _) (by kernel_rfl) (fun n1 a w hst => ?_)
  replace hst : St M w0 8 [(4, tnil s_ false), (0, tsl rI s_)] [] a w := (hst.pick [1, 2])
  refine hK3 _ _ ?_
  try clear hK3 K3
  refine wp_test_nil 0 hst rfl (fun b8 => ?_) ?_
  · replace h : (some ([] : List Int)) = some r := by
      obtain ⟨_, _, h⟩ := bind_some h
      rw [b8] at h
      exact h
    refine wp_seq_k (fun K4 hK4 => ?_)
    refine wp_reg mixed [] hst (fun _ => .p rfl (op_assign .k) <| .nil _ _) (by kernel_rfl) (fun n2 a w hst => ?_)
    replace hst : St M w0 8 [(2, tv (.slice none 0 0))] [own rI 3 ([] : List Int) (.slice none 0 0)] a w := ((hst.pick [0]).nil (rI) 3)
    refine hK4 _ _ ?_
    try clear hK4 K4
    refine wp_ret ?_
    obtain rfl := Option.some.inj h
    exact ret_st (.slice none 0 0) [0] hpl hst rfl (.tmp (.t 0 rfl) .nil) rfl rfl rfl
  · refine wp_skip ?_
    refine hK2 _ _ ?_
    try clear hK2 K2
    refine wp_seq_k (fun K6 hK6 => ?_)
    obtain ⟨u7, hu7, h⟩ := bind_some h
    refine wp_reg mixed [v1 0 (fun v0 => own rI 3 ([] : List Int) v0), v1 2 (fun v0 => own rI 3 (([] : List Int) ++ s_) v0)] hst (fun _ => .m [] [0] rfl rfl rfl (op_buildSlO (R := rI) (us := ([] : List Int)) Try.underlying22 tok3 (.nil _) rfl (Nat.le_of_ble_eq_true rfl) (Nat.le_of_ble_eq_true rfl)) <| .p rfl (op_move (.t 2 rfl)) <| .e [] [0] [1] rfl rfl rfl rfl (op_append (R := rI) Try.underlying22 tok3 (Nat.le_of_ble_eq_true rfl) (.t 1 rfl) (.t 0 rfl) hu7) <| .ud (f := fun v => tv v) 2 rfl [] rfl rfl (op_assign (.t 0 rfl)) <| .nil _ _) (by kernel_rfl) (fun n3 a w hst => ?_)
    replace hst : St M w0 8 [(7, tv (n3 2)), (2, tv (n3 2))] [own rI 3 (([] : List Int) ++ s_) (n3 2)] a w := (hst.pick [2, 3])
    refine hK6 _ _ ?_
    try clear hK6 K6
    refine wp_ret ?_
    obtain rfl := Option.some.inj h
    exact ret_st (n3 2) [0] hpl hst rfl (.tmp (.t 1 rfl) .nil) rfl rfl rfl

/- diorama/dioramaref01.Take -/
noncomputable def fTake (l_ : (List Int)) (most_ : Int) : Option ((List Int)) := (sub l_ (0:Int) (imin (l_.length : Int) most_)).bind fun t12 => (rm (([] : List Int).length + t12.length)).bind fun _ => (some (([] : List Int) ++ t12))
set_option maxRecDepth 100000 in
set_option maxHeartbeats 4000000 in
theorem Take_ok {l_ : (List Int)} {most_ : Int} {r : (List Int)} (h : fTake l_ most_ = some r) : FnOk Try.prog 15 [tsl rI l_, ti most_] [] (fun v => [own rI 3 r v]) (fun v => tv v) := by
  unfold fTake at h
  refine FnOk.enter Try.func15 rfl Try.ntmps15 (Nat.le_of_ble_eq_true rfl) (fun M0 M w0 a hpl hst => ?_)
  replace hst : St M w0 14 [(0, tsl rI l_), (1, ti most_)] [] a w0 := hst
  refine wp_seq_k (fun K1 hK1 => ?_)
  refine wp_reg mixed [] hst (fun _ => .p rfl (op_assign .k) <| .nil _ _) (by kernel_rfl) (fun n0 a w hst => ?_)
  replace hst : St M w0 14 [(0, tsl rI l_), (1, ti most_)] [] a w := (hst.pick [1, 2])
  refine hK1 _ _ ?_
  try clear hK1 K1
  refine wp_seq_k (fun K2 hK2 => ?_)
  refine wp_reg mixed [] hst (fun _ => .p rfl (op_assign .k) <| .nil _ _) (by kernel_rfl) (fun n1 a w hst => ?_)
  replace hst : St M w0 14 [(5, tv (.slice none 0 0)), (0, tsl rI l_), (1, ti most_)] [own rI 3 ([] : List Int) (.slice none 0 0)] a w := ((hst.pick [0, 1, 2]).nil (rI) 3)
  refine hK2 _ _ ?_
  try clear hK2 K2
  refine wp_seq_k (fun K4 hK4 => ?_)
  obtain ⟨t12, ht12, h⟩ := bind_some h
  obtain ⟨u13, hu13, h⟩ := bind_some h
  refine wp_reg mixed [v1 7 (fun v0 => own rI 3 (([] : List Int) ++ t12) v0)] hst (fun _ => .p rfl (op_move (.t 0 rfl)) <| .p rfl (op_move (.t 2 rfl)) <| .p rfl (op_move (.t 3 rfl)) <| .p rfl (op_len Try.underlying22 (.t 0 rfl)) <| .p rfl (op_move (.t 6 rfl)) <| .p rfl (op_min (.t 1 rfl) (.t 0 rfl)) <| .p rfl (op_slice Try.underlying22 tok3 (.t 4 rfl) (.no _) (.op (.t 0 rfl)) ht12) <| .e [] [0] [1] rfl rfl rfl rfl (op_append (R := rI) Try.underlying22 tok3 (Nat.le_of_ble_eq_true rfl) (.t 6 rfl) (.t 0 rfl) hu13) <| .ud (f := fun v => tv v) 7 rfl [] rfl rfl (op_assign (.t 0 rfl)) <| .nil _ _) (by kernel_rfl) (fun n2 a w hst => ?_)
  replace hst : St M w0 14 [(13, tv (n2 7)), (4, tv (n2 7))] [own rI 3 (([] : List Int) ++ t12) (n2 7)] a w := (hst.pick [7, 8])
  refine hK4 _ _ ?_
  try clear hK4 K4
  refine wp_ret ?_
  obtain rfl := Option.some.inj h
  exact ret_st (n2 7) [0] hpl hst rfl (.tmp (.t 1 rfl) .nil) rfl rfl rfl

/- slices.IndexFunc[[]int,int] -/
noncomputable def fIndexI (s_ : (List Int)) (f_ : (Int → Option Bool)) : Option (Int) := (tailrec (fun (s4 : Int) => ((if (decide (s4 < (s_.length : Int))) = true then (idx s_ s4).bind fun t14 => (f_ t14).bind fun t16 => (if t16 = true then (some (.inr (.inr s4))) else (some (.inl (IntKind.i64.wrap (s4 + (1:Int)))))) else (some (.inr (.inl ())))) : Option ((Int) ⊕ ((Unit) ⊕ (Int))))) (0:Int)).bind fun (e5 : (Unit) ⊕ (Int)) => (match e5 with | .inl p14 => (some (-1:Int)) | .inr p15 => (some p15))
set_option maxRecDepth 100000 in
set_option maxHeartbeats 4000000 in
theorem IndexI_ok {s_ : (List Int)} {f_ : (Int → Option Bool)} {r : Int} (h : fIndexI s_ f_ = some r) : FnOk Try.prog 85 [tsl rI s_, tpred Try.prog rI f_] [] (fun _ => []) (fun _ => ti r) := by
  unfold fIndexI at h
  refine FnOk.enter Try.func85 rfl Try.ntmps85 (Nat.le_of_ble_eq_true rfl) (fun M0 M w0 a hpl hst => ?_)
  replace hst : St M w0 19 [(0, tsl rI s_), (1, tpred Try.prog rI f_)] [] a w0 := hst
  refine wp_seq_k (fun K1 hK1 => ?_)
  refine wp_reg mixed [] hst (fun _ => .p rfl (op_assign .k) <| .nil _ _) (by kernel_rfl) (fun n0 a w hst => ?_)
  replace hst : St M w0 19 [(0, tsl rI s_), (1, tpred Try.prog rI f_)] [] a w := (hst.pick [1, 2])
  refine hK1 _ _ ?_
  try clear hK1 K1
  refine wp_seq_k (fun K2 hK2 => ?_)
  refine wp_seq_k (fun K3 hK3 => ?_)
  refine wp_reg mixed [] hst (fun _ => .p rfl (op_move (.t 0 rfl)) <| .p rfl (op_len Try.underlying22 (.t 0 rfl)) <| .p rfl (op_move .k) <| .nil _ _) (by kernel_rfl) (fun n1 a w hst => ?_)
  replace hst : St M w0 19 [(7, ti (s_.length : Int)), (8, ti (0:Int)), (0, tsl rI s_), (1, tpred Try.prog rI f_)] [] a w := (hst.pick [1, 2, 3, 4])
  refine hK3 _ _ ?_
  try clear hK3 K3
  obtain ⟨e5, he5, h⟩ := bind_some h
  have hJp14 : ∀ (p14 : Unit) a w, (.inl p14) = e5 → St M w0 19 [] [] a w → K2 a w := by
    intro p14 a w he hst
    subst he
    simp only at h
    refine hK2 _ _ ?_
    try clear hK2 K2
    refine wp_seq_k (fun K16 hK16 => ?_)
    refine wp_reg mixed [] hst (fun _ => .p rfl (op_assign .k) <| .nil _ _) (by kernel_rfl) (fun n7 a w hst => ?_)
    replace hst : St M w0 19 [(4, ti (-1:Int))] [] a w := (hst.pick [0])
    refine hK16 _ _ ?_
    try clear hK16 K16
    refine wp_ret ?_
    obtain rfl := Option.some.inj h
    exact ret_st undef [] hpl hst rfl (.tmp (.t 0 rfl) .nil) rfl rfl rfl
  have hJp15 : ∀ (p15 : Int) a w, (.inr p15) = e5 → St M w0 19 [(4, ti p15)] [] a w → Ret Try.prog Try.f85 M0 [] w0 (fun _ => []) (fun _ => ti r) .ret a w := by
    intro p15 a w he hst
    subst he
    simp only at h
    obtain rfl := Option.some.inj h
    exact ret_st undef [] hpl hst rfl (.tmp (.t 0 rfl) .nil) rfl rfl rfl
  refine wp_block ?_
  refine wp_loopK _ (fun (s4 : Int) a w => St M w0 19 [(7, ti (s_.length : Int)), (8, ti s4), (0, tsl rI s_), (1, tpred Try.prog rI f_)] [] a w) _ _ he5 (hst.pick [0, 1, 2, 3]) ?_
  clear h
  intro s4 o a w K17 hI h ho hK17
  have hst := hI
  clear hI
  refine wp_seq_k (fun K18 hK18 => ?_)
  refine wp_reg mixed [] hst (fun _ => .p rfl (op_lss (.t 1 rfl) (.t 0 rfl)) <| .nil _ _) (by kernel_rfl) (fun n2 a w hst => ?_)
  replace hst : St M w0 19 [(9, tb (decide (s4 < (s_.length : Int)))), (7, ti (s_.length : Int)), (8, ti s4), (0, tsl rI s_), (1, tpred Try.prog rI f_)] [] a w := (hst.pick [0, 1, 2, 3, 4])
  refine hK18 _ _ ?_
  try clear hK18 K18
  refine wp_seq_k (fun K19 hK19 => ?_)
  refine wp_test 0 hst rfl (fun b25 => ?_) (fun b25 => ?_)
  · replace h := ite_t b25 h
    refine wp_skip ?_
    refine hK19 _ _ ?_
    try clear hK19 K19
    refine wp_seq_k (fun K20 hK20 => ?_)
    refine wp_block ?_
    refine wp_seq_k (fun K21 hK21 => ?_)
    refine wp_reg mixed [] hst (fun _ => .p rfl (op_move (.t 2 rfl)) <| .p rfl (op_assign (.t 0 rfl)) <| .nil _ _) (by kernel_rfl) (fun n3 a w hst => ?_)
    replace hst : St M w0 19 [(5, ti s4), (7, ti (s_.length : Int)), (8, ti s4), (0, tsl rI s_), (1, tpred Try.prog rI f_)] [] a w := (hst.pick [1, 3, 4, 5, 6])
    refine hK21 _ _ ?_
    try clear hK21 K21
    refine wp_seq_k (fun K22 hK22 => ?_)
    obtain ⟨t14, ht14, h⟩ := bind_some h
    obtain ⟨t16, ht16, h⟩ := bind_some h
    refine wp_reg mixed [] hst (fun _ => .p rfl (op_move (.t 4 rfl)) <| .p rfl (op_move (.t 4 rfl)) <| .p rfl (op_move (.t 2 rfl)) <| .p rfl (op_index Try.underlying22 tok3 (.t 1 rfl) (.t 0 rfl) ht14) <| .p rfl (op_load tok3 (.t 0 rfl)) <| .p rfl (op_callP (u := t14) (.t 4 rfl) (.t 0 rfl) ht16) <| .nil _ _) (by kernel_rfl) (fun n4 a w hst => ?_)
    replace hst : St M w0 19 [(16, tb t16), (5, ti s4), (7, ti (s_.length : Int)), (8, ti s4), (0, tsl rI s_), (1, tpred Try.prog rI f_)] [] a w := (hst.pick [5, 6, 7, 8, 9, 10])
    refine hK22 _ _ ?_
    try clear hK22 K22
    refine wp_test 0 hst rfl (fun b24 => ?_) (fun b24 => ?_)
    · replace h := ite_t b24 h
      refine wp_seq_k (fun K23 hK23 => ?_)
      refine wp_reg mixed [] hst (fun _ => .p rfl (op_move (.t 1 rfl)) <| .p rfl (op_assign (.t 0 rfl)) <| .nil _ _) (by kernel_rfl) (fun n5 a w hst => ?_)
      replace hst : St M w0 19 [(4, ti s4)] [] a w := (hst.pick [1])
      refine hK23 _ _ ?_
      try clear hK23 K23
      refine wp_ret ?_
      exact hJp15 _ _ _ (ho _ (Option.some.inj h).symm) (hst.pick [0])
    · replace h := ite_f b24 h
      refine wp_skip ?_
      refine hK20 _ _ ?_
      try clear hK20 K20
      refine wp_reg mixed [] hst (fun _ => .p rfl (op_add (.t 3 rfl) .k) <| .p rfl (op_move (.t 0 rfl)) <| .nil _ _) (by kernel_rfl) (fun n6 a w hst => ?_)
      replace hst : St M w0 19 [(8, ti (IntKind.i64.wrap (s4 + (1:Int)))), (7, ti (s_.length : Int)), (0, tsl rI s_), (1, tpred Try.prog rI f_)] [] a w := (hst.pick [1, 4, 5, 6])
      exact hK17 _ _ _ (Option.some.inj h).symm (hst.pick [1, 0, 2, 3])
  · replace h := ite_f b25 h
    refine wp_exit ?_
    exact hJp14 _ _ _ (ho _ (Option.some.inj h).symm) (hst.pick [])

/- slices.ContainsFunc[[]int,int] -/
noncomputable def fContainsI (s_ : (List Int)) (f_ : (Int → Option Bool)) : Option (Bool) := (fIndexI s_ f_).bind fun t7 => (some (decide (t7 ≥ (0:Int))))
set_option maxRecDepth 100000 in
set_option maxHeartbeats 4000000 in
theorem ContainsI_ok {s_ : (List Int)} {f_ : (Int → Option Bool)} {r : Bool} (h : fContainsI s_ f_ = some r) : FnOk Try.prog 68 [tsl rI s_, tpred Try.prog rI f_] [] (fun _ => []) (fun _ => tb r) := by
  unfold fContainsI at h
  refine FnOk.enter Try.func68 rfl Try.ntmps68 (Nat.le_of_ble_eq_true rfl) (fun M0 M w0 a hpl hst => ?_)
  replace hst : St M w0 9 [(0, tsl rI s_), (1, tpred Try.prog rI f_)] [] a w0 := hst
  refine wp_seq_k (fun K1 hK1 => ?_)
  refine wp_reg mixed [] hst (fun _ => .p rfl (op_assign .k) <| .nil _ _) (by kernel_rfl) (fun n0 a w hst => ?_)
  replace hst : St M w0 9 [(0, tsl rI s_), (1, tpred Try.prog rI f_)] [] a w := (hst.pick [1, 2])
  refine hK1 _ _ ?_
  try clear hK1 K1
  refine wp_seq_k (fun K2 hK2 => ?_)
  obtain ⟨t7, ht7, h⟩ := bind_some h
  refine wp_reg mixed [] hst (fun _ => .p rfl (op_move (.t 0 rfl)) <| .p rfl (op_move (.t 2 rfl)) <| .p rfl (op_callF call85 (IndexI_ok ht7) (.cons (.of (.t 1 rfl)) <| .cons (.of (.t 0 rfl)) <| .nil)) <| .p rfl (op_geq (.t 0 rfl) .k) <| .p rfl (op_assign (.t 0 rfl)) <| .nil _ _) (by kernel_rfl) (fun n1 a w hst => ?_)
  replace hst : St M w0 9 [(4, tb (decide (t7 ≥ (0:Int))))] [] a w := (hst.pick [4])
  refine hK2 _ _ ?_
  try clear hK2 K2
  refine wp_ret ?_
  obtain rfl := Option.some.inj h
  exact ret_st undef [] hpl hst rfl (.tmp (.t 0 rfl) .nil) rfl rfl rfl

/- slices.Max[[]int,int] -/
noncomputable def fMax (x_ : (List Int)) : Option (Int) := (if (decide ((x_.length : Int) < (1:Int))) = true then none else (idx x_ (0:Int)).bind fun t10 => (tailrec (fun (s7 : Int × Int) => ((if (decide (s7.1 < (x_.length : Int))) = true then (idx x_ s7.1).bind fun t21 => (some (.inl ((IntKind.i64.wrap (s7.1 + (1:Int))), (imax s7.2 t21)))) else (some (.inr s7.2))) : Option ((Int × Int) ⊕ ((Int))))) ((1:Int), t10)).bind fun (p13 : (Int)) => (some p13))
set_option maxRecDepth 100000 in
set_option maxHeartbeats 4000000 in
theorem Max_ok {x_ : (List Int)} {r : Int} (h : fMax x_ = some r) : FnOk Try.prog 53 [tsl rI x_] [] (fun _ => []) (fun _ => ti r) := by
  unfold fMax at h
  refine FnOk.enter Try.func53 rfl Try.ntmps53 (Nat.le_of_ble_eq_true rfl) (fun M0 M w0 a hpl hst => ?_)
  replace hst : St M w0 25 [(0, tsl rI x_)] [] a w0 := hst
  refine wp_seq_k (fun K1 hK1 => ?_)
  refine wp_reg mixed [] hst (fun _ => .p rfl (op_assign .k) <| .nil _ _) (by kernel_rfl) (fun n0 a w hst => ?_)
  replace hst : St M w0 25 [(0, tsl rI x_)] [] a w := (hst.pick [1])
  refine hK1 _ _ ?_
  try clear hK1 K1
  refine wp_seq_k (fun K2 hK2 => ?_)
  refine wp_seq_k (fun K3 hK3 => ?_)
  refine wp_reg mixed [] hst (fun _ => .p rfl (op_move (.t 0 rfl)) <| .p rfl (op_len Try.underlying22 (.t 0 rfl)) <| .p rfl (op_lss (.t 0 rfl) .k) <| .nil _ _) (by kernel_rfl) (fun n1 a w hst => ?_)
  replace hst : St M w0 25 [(7, tb (decide ((x_.length : Int) < (1:Int)))), (0, tsl rI x_)] [] a w := (hst.pick [2, 3])
  refine hK3 _ _ ?_
  try clear hK3 K3
  refine wp_test 0 hst rfl (fun b20 => ?_) (fun b20 => ?_)
  · replace h := ite_t b20 h
    cases h
  · replace h := ite_f b20 h
    refine wp_skip ?_
    refine hK2 _ _ ?_
    try clear hK2 K2
    refine wp_seq_k (fun K4 hK4 => ?_)
    obtain ⟨t10, ht10, h⟩ := bind_some h
    refine wp_reg mixed [] hst (fun _ => .p rfl (op_move (.t 1 rfl)) <| .p rfl (op_index Try.underlying22 tok3 (.t 0 rfl) .k ht10) <| .p rfl (op_load tok3 (.t 0 rfl)) <| .p rfl (op_assign (.t 0 rfl)) <| .nil _ _) (by kernel_rfl) (fun n3 a w hst => ?_)
    replace hst : St M w0 25 [(3, ti t10), (0, tsl rI x_)] [] a w := (hst.pick [3, 5])
    refine hK4 _ _ ?_
    try clear hK4 K4
    refine wp_seq_k (fun K5 hK5 => ?_)
    refine wp_seq_k (fun K6 hK6 => ?_)
    refine wp_reg mixed [] hst (fun _ => .p rfl (op_assign .k) <| .nil _ _) (by kernel_rfl) (fun n4 a w hst => ?_)
    replace hst : St M w0 25 [(4, ti (1:Int)), (3, ti t10), (0, tsl rI x_)] [] a w := (hst.pick [0, 1, 2])
    refine hK6 _ _ ?_
    try clear hK6 K6
    obtain ⟨e8, he8, h⟩ := bind_some h
    have hJp13 : ∀ (p13 : Int) a w, p13 = e8 → St M w0 25 [(3, ti p13)] [] a w → K5 a w := by
      intro p13 a w he hst
      subst he
      refine hK5 _ _ ?_
      try clear hK5 K5
      refine wp_seq_k (fun K14 hK14 => ?_)
      refine wp_reg mixed [] hst (fun _ => .p rfl (op_move (.t 0 rfl)) <| .p rfl (op_assign (.t 0 rfl)) <| .nil _ _) (by kernel_rfl) (fun n8 a w hst => ?_)
      replace hst : St M w0 25 [(2, ti p13)] [] a w := (hst.pick [1])
      refine hK14 _ _ ?_
      try clear hK14 K14
      refine wp_ret ?_
      obtain rfl := Option.some.inj h
      exact ret_st undef [] hpl hst rfl (.tmp (.t 0 rfl) .nil) rfl rfl rfl
    refine wp_block ?_
    refine wp_loopK _ (fun (s7 : Int × Int) a w => St M w0 25 [(4, ti s7.1), (3, ti s7.2), (0, tsl rI x_)] [] a w) _ _ he8 (hst.pick [0, 1, 2]) ?_
    clear h
    intro s7 o a w K15 hI h ho hK15
    have hst := hI
    clear hI
    refine wp_seq_k (fun K16 hK16 => ?_)
    refine wp_seq_k (fun K17 hK17 => ?_)
    refine wp_reg mixed [] hst (fun _ => .p rfl (op_move (.t 0 rfl)) <| .p rfl (op_move (.t 3 rfl)) <| .p rfl (op_len Try.underlying22 (.t 0 rfl)) <| .p rfl (op_lss (.t 2 rfl) (.t 0 rfl)) <| .nil _ _) (by kernel_rfl) (fun n5 a w hst => ?_)
    replace hst : St M w0 25 [(15, tb (decide (s7.1 < (x_.length : Int)))), (4, ti s7.1), (3, ti s7.2), (0, tsl rI x_)] [] a w := (hst.pick [3, 4, 5, 6])
    refine hK17 _ _ ?_
    try clear hK17 K17
    refine wp_test 0 hst rfl (fun b19 => ?_) (fun b19 => ?_)
    · replace h := ite_t b19 h
      refine wp_skip ?_
      refine hK16 _ _ ?_
      try clear hK16 K16
      refine wp_seq_k (fun K18 hK18 => ?_)
      refine wp_block ?_
      obtain ⟨t21, ht21, h⟩ := bind_some h
      refine wp_reg mixed [] hst (fun _ => .p rfl (op_move (.t 2 rfl)) <| .p rfl (op_move (.t 4 rfl)) <| .p rfl (op_move (.t 3 rfl)) <| .p rfl (op_index Try.underlying22 tok3 (.t 1 rfl) (.t 0 rfl) ht21) <| .p rfl (op_load tok3 (.t 0 rfl)) <| .p rfl (op_max (.t 4 rfl) (.t 0 rfl)) <| .p rfl (op_assign (.t 0 rfl)) <| .nil _ _) (by kernel_rfl) (fun n7 a w hst => ?_)
      replace hst : St M w0 25 [(3, ti (imax s7.2 t21)), (4, ti s7.1), (0, tsl rI x_)] [] a w := (hst.pick [6, 8, 9])
      refine hK18 _ _ ?_
      try clear hK18 K18
      refine wp_reg mixed [] hst (fun _ => .p rfl (op_move (.t 1 rfl)) <| .p rfl (op_add (.t 0 rfl) .k) <| .p rfl (op_assign (.t 0 rfl)) <| .nil _ _) (by kernel_rfl) (fun n6 a w hst => ?_)
      replace hst : St M w0 25 [(4, ti (IntKind.i64.wrap (s7.1 + (1:Int)))), (3, ti (imax s7.2 t21)), (0, tsl rI x_)] [] a w := (hst.pick [2, 3, 4])
      exact hK15 _ _ _ (Option.some.inj h).symm (hst.pick [0, 1, 2])
    · replace h := ite_f b19 h
      refine wp_exit ?_
      exact hJp13 _ _ _ (ho _ (Option.some.inj h).symm) (hst.pick [2])

/- slices.Min[[]int,int] -/
noncomputable def fMin (x_ : (List Int)) : Option (Int) := (if (decide ((x_.length : Int) < (1:Int))) = true then none else (idx x_ (0:Int)).bind fun t10 => (tailrec (fun (s7 : Int × Int) => ((if (decide (s7.1 < (x_.length : Int))) = true then (idx x_ s7.1).bind fun t21 => (some (.inl ((IntKind.i64.wrap (s7.1 + (1:Int))), (imin s7.2 t21)))) else (some (.inr s7.2))) : Option ((Int × Int) ⊕ ((Int))))) ((1:Int), t10)).bind fun (p13 : (Int)) => (some p13))
set_option maxRecDepth 100000 in
set_option maxHeartbeats 4000000 in
theorem Min_ok {x_ : (List Int)} {r : Int} (h : fMin x_ = some r) : FnOk Try.prog 71 [tsl rI x_] [] (fun _ => []) (fun _ => ti r) := by
  unfold fMin at h
  refine FnOk.enter Try.func71 rfl Try.ntmps71 (Nat.le_of_ble_eq_true rfl) (fun M0 M w0 a hpl hst => ?_)
  replace hst : St M w0 25 [(0, tsl rI x_)] [] a w0 := hst
  refine wp_seq_k (fun K1 hK1 => ?_)
  refine wp_reg mixed [] hst (fun _ => .p rfl (op_assign .k) <| .nil _ _) (by kernel_rfl) (fun n0 a w hst => ?_)
  replace hst : St M w0 25 [(0, tsl rI x_)] [] a w := (hst.pick [1])
  refine hK1 _ _ ?_
  try clear hK1 K1
  refine wp_seq_k (fun K2 hK2 => ?_)
  refine wp_seq_k (fun K3 hK3 => ?_)
  refine wp_reg mixed [] hst (fun _ => .p rfl (op_move (.t 0 rfl)) <| .p rfl (op_len Try.underlying22 (.t 0 rfl)) <| .p rfl (op_lss (.t 0 rfl) .k) <| .nil _ _) (by kernel_rfl) (fun n1 a w hst => ?_)
  replace hst : St M w0 25 [(7, tb (decide ((x_.length : Int) < (1:Int)))), (0, tsl rI x_)] [] a w := (hst.pick [2, 3])
  refine hK3 _ _ ?_
  try clear hK3 K3
  refine wp_test 0 hst rfl (fun b20 => ?_) (fun b20 => ?_)
  · replace h := ite_t b20 h
    cases h
  · replace h := ite_f b20 h
    refine wp_skip ?_
    refine hK2 _ _ ?_
    try clear hK2 K2
    refine wp_seq_k (fun K4 hK4 => ?_)
    obtain ⟨t10, ht10, h⟩ := bind_some h
    refine wp_reg mixed [] hst (fun _ => .p rfl (op_move (.t 1 rfl)) <| .p rfl (op_index Try.underlying22 tok3 (.t 0 rfl) .k ht10) <| .p rfl (op_load tok3 (.t 0 rfl)) <| .p rfl (op_assign (.t 0 rfl)) <| .nil _ _) (by kernel_rfl) (fun n3 a w hst => ?_)
    replace hst : St M w0 25 [(3, ti t10), (0, tsl rI x_)] [] a w := (hst.pick [3, 5])
    refine hK4 _ _ ?_
    try clear hK4 K4
    refine wp_seq_k (fun K5 hK5 => ?_)
    refine wp_seq_k (fun K6 hK6 => ?_)
    refine wp_reg mixed [] hst (fun _ => .p rfl (op_assign .k) <| .nil _ _) (by kernel_rfl) (fun n4 a w hst => ?_)
    replace hst : St M w0 25 [(4, ti (1:Int)), (3, ti t10), (0, tsl rI x_)] [] a w := (hst.pick [0, 1, 2])
    refine hK6 _ _ ?_
    try clear hK6 K6
    obtain ⟨e8, he8, h⟩ := bind_some h
    have hJp13 : ∀ (p13 : Int) a w, p13 = e8 → St M w0 25 [(3, ti p13)] [] a w → K5 a w := by
      intro p13 a w he hst
      subst he
      refine hK5 _ _ ?_
      try clear hK5 K5
      refine wp_seq_k (fun K14 hK14 => ?_)
      refine wp_reg mixed [] hst (fun _ => .p rfl (op_move (.t 0 rfl)) <| .p rfl (op_assign (.t 0 rfl)) <| .nil _ _) (by kernel_rfl) (fun n8 a w hst => ?_)
      replace hst : St M w0 25 [(2, ti p13)] [] a w := (hst.pick [1])
      refine hK14 _ _ ?_
      try clear hK14 K14
      refine wp_ret ?_
      obtain rfl := Option.some.inj h
      exact ret_st undef [] hpl hst rfl (.tmp (.t 0 rfl) .nil) rfl rfl rfl
    refine wp_block ?_
    refine wp_loopK _ (fun (s7 : Int × Int) a w => St M w0 25 [(4, ti s7.1), (3, ti s7.2), (0, tsl rI x_)] [] a w) _ _ he8 (hst.pick [0, 1, 2]) ?_
    clear h
    intro s7 o a w K15 hI h ho hK15
    have hst := hI
    clear hI
    refine wp_seq_k (fun K16 hK16 => ?_)
    refine wp_seq_k (fun K17 hK17 => ?_)
    refine wp_reg mixed [] hst (fun _ => .p rfl (op_move (.t 0 rfl)) <| .p rfl (op_move (.t 3 rfl)) <| .p rfl (op_len Try.underlying22 (.t 0 rfl)) <| .p rfl (op_lss (.t 2 rfl) (.t 0 rfl)) <| .nil _ _) (by kernel_rfl) (fun n5 a w hst => ?_)
    replace hst : St M w0 25 [(15, tb (decide (s7.1 < (x_.length : Int)))), (4, ti s7.1), (3, ti s7.2), (0, tsl rI x_)] [] a w := (hst.pick [3, 4, 5, 6])
    refine hK17 _ _ ?_
    try clear hK17 K17
    refine wp_test 0 hst rfl (fun b19 => ?_) (fun b19 => ?_)
    · replace h := ite_t b19 h
      refine wp_skip ?_
      refine hK16 _ _ ?_
      try clear hK16 K16
      refine wp_seq_k (fun K18 hK18 => ?_)
      refine wp_block ?_
      obtain ⟨t21, ht21, h⟩ := bind_some h
      refine wp_reg mixed [] hst (fun _ => .p rfl (op_move (.t 2 rfl)) <| .p rfl (op_move (.t 4 rfl)) <| .p rfl (op_move (.t 3 rfl)) <| .p rfl (op_index Try.underlying22 tok3 (.t 1 rfl) (.t 0 rfl) ht21) <| .p rfl (op_load tok3 (.t 0 rfl)) <| .p rfl (op_min (.t 4 rfl) (.t 0 rfl)) <| .p rfl (op_assign (.t 0 rfl)) <| .nil _ _) (by kernel_rfl) (fun n7 a w hst => ?_)
      replace hst : St M w0 25 [(3, ti (imin s7.2 t21)), (4, ti s7.1), (0, tsl rI x_)] [] a w := (hst.pick [6, 8, 9])
      refine hK18 _ _ ?_
      try clear hK18 K18
      refine wp_reg mixed [] hst (fun _ => .p rfl (op_move (.t 1 rfl)) <| .p rfl (op_add (.t 0 rfl) .k) <| .p rfl (op_assign (.t 0 rfl)) <| .nil _ _) (by kernel_rfl) (fun n6 a w hst => ?_)
      replace hst : St M w0 25 [(4, ti (IntKind.i64.wrap (s7.1 + (1:Int)))), (3, ti (imin s7.2 t21)), (0, tsl rI x_)] [] a w := (hst.pick [2, 3, 4])
      exact hK15 _ _ _ (Option.some.inj h).symm (hst.pick [0, 1, 2])
    · replace h := ite_f b19 h
      refine wp_exit ?_
      exact hJp13 _ _ _ (ho _ (Option.some.inj h).symm) (hst.pick [2])

/- math/bits.Mul64 -/
noncomputable def fBMul64 (x_ : Int) (y_ : Int) : Option (Int × Int) := (some ((IntKind.u64.wrap ((IntKind.u64.wrap ((IntKind.u64.wrap ((ishr .u64 x_ (32:Int)) * (ishr .u64 y_ (32:Int)))) + (ishr .u64 (IntKind.u64.wrap ((IntKind.u64.wrap ((ishr .u64 x_ (32:Int)) * (iand .u64 y_ (4294967295:Int)))) + (ishr .u64 (IntKind.u64.wrap ((iand .u64 x_ (4294967295:Int)) * (iand .u64 y_ (4294967295:Int)))) (32:Int)))) (32:Int)))) + (ishr .u64 (IntKind.u64.wrap ((iand .u64 (IntKind.u64.wrap ((IntKind.u64.wrap ((ishr .u64 x_ (32:Int)) * (iand .u64 y_ (4294967295:Int)))) + (ishr .u64 (IntKind.u64.wrap ((iand .u64 x_ (4294967295:Int)) * (iand .u64 y_ (4294967295:Int)))) (32:Int)))) (4294967295:Int)) + (IntKind.u64.wrap ((iand .u64 x_ (4294967295:Int)) * (ishr .u64 y_ (32:Int)))))) (32:Int)))), (IntKind.u64.wrap (x_ * y_))))
set_option maxRecDepth 100000 in
set_option maxHeartbeats 4000000 in
theorem BMul64_ok {x_ : Int} {y_ : Int} {r : Int × Int} (h : fBMul64 x_ y_ = some r) : FnOk Try.prog 89 [tv (.int .u64 x_), tv (.int .u64 y_)] [] (fun _ => []) (fun _ => ttup [tv (.int .u64 r.1), tv (.int .u64 r.2)]) := by
  unfold fBMul64 at h
  refine FnOk.enter Try.func89 rfl Try.ntmps89 (Nat.le_of_ble_eq_true rfl) (fun M0 M w0 a hpl hst => ?_)
  replace hst : St M w0 51 [(0, tv (.int .u64 x_)), (1, tv (.int .u64 y_))] [] a w0 := hst
  refine wp_seq_k (fun K1 hK1 => ?_)
  refine wp_reg mixed [] hst (fun _ => .p rfl (op_assign .k) <| .p rfl (op_assign .k) <| .nil _ _) (by kernel_rfl) (fun n0 a w hst => ?_)
  replace hst : St M w0 51 [(0, tv (.int .u64 x_)), (1, tv (.int .u64 y_))] [] a w := (hst.pick [2, 3])
  refine hK1 _ _ ?_
  try clear hK1 K1
  refine wp_seq_k (fun K2 hK2 => ?_)
  refine wp_reg mixed [] hst (fun _ => .p rfl (op_move (.t 0 rfl)) <| .p rfl (op_iand (.t 0 rfl) .k) <| .p rfl (op_assign (.t 0 rfl)) <| .nil _ _) (by kernel_rfl) (fun n1 a w hst => ?_)
  replace hst : St M w0 51 [(6, tv (.int .u64 (iand .u64 x_ (4294967295:Int)))), (0, tv (.int .u64 x_)), (1, tv (.int .u64 y_))] [] a w := (hst.pick [2, 3, 4])
  refine hK2 _ _ ?_
  try clear hK2 K2
  refine wp_seq_k (fun K3 hK3 => ?_)
  refine wp_reg mixed [] hst (fun _ => .p rfl (op_move (.t 1 rfl)) <| .p rfl (op_ishr (.t 0 rfl) .k (by decide)) <| .p rfl (op_assign (.t 0 rfl)) <| .nil _ _) (by kernel_rfl) (fun n2 a w hst => ?_)
  replace hst : St M w0 51 [(7, tv (.int .u64 (ishr .u64 x_ (32:Int)))), (6, tv (.int .u64 (iand .u64 x_ (4294967295:Int)))), (0, tv (.int .u64 x_)), (1, tv (.int .u64 y_))] [] a w := (hst.pick [2, 3, 4, 5])
  refine hK3 _ _ ?_
  try clear hK3 K3
  refine wp_seq_k (fun K4 hK4 => ?_)
  refine wp_reg mixed [] hst (fun _ => .p rfl (op_move (.t 3 rfl)) <| .p rfl (op_iand (.t 0 rfl) .k) <| .p rfl (op_assign (.t 0 rfl)) <| .nil _ _) (by kernel_rfl) (fun n3 a w hst => ?_)
  replace hst : St M w0 51 [(8, tv (.int .u64 (iand .u64 y_ (4294967295:Int)))), (7, tv (.int .u64 (ishr .u64 x_ (32:Int)))), (6, tv (.int .u64 (iand .u64 x_ (4294967295:Int)))), (0, tv (.int .u64 x_)), (1, tv (.int .u64 y_))] [] a w := (hst.pick [2, 3, 4, 5, 6])
  refine hK4 _ _ ?_
  try clear hK4 K4
  refine wp_seq_k (fun K5 hK5 => ?_)
  refine wp_reg mixed [] hst (fun _ => .p rfl (op_move (.t 4 rfl)) <| .p rfl (op_ishr (.t 0 rfl) .k (by decide)) <| .p rfl (op_assign (.t 0 rfl)) <| .nil _ _) (by kernel_rfl) (fun n4 a w hst => ?_)
  replace hst : St M w0 51 [(9, tv (.int .u64 (ishr .u64 y_ (32:Int)))), (8, tv (.int .u64 (iand .u64 y_ (4294967295:Int)))), (7, tv (.int .u64 (ishr .u64 x_ (32:Int)))), (6, tv (.int .u64 (iand .u64 x_ (4294967295:Int)))), (0, tv (.int .u64 x_)), (1, tv (.int .u64 y_))] [] a w := (hst.pick [2, 3, 4, 5, 6, 7])
  refine hK5 _ _ ?_
  try clear hK5 K5
  refine wp_seq_k (fun K6 hK6 => ?_)
  refine wp_reg mixed [] hst (fun _ => .p rfl (op_move (.t 3 rfl)) <| .p rfl (op_move (.t 2 rfl)) <| .p rfl (op_mul (.t 1 rfl) (.t 0 rfl)) <| .p rfl (op_assign (.t 0 rfl)) <| .nil _ _) (by kernel_rfl) (fun n5 a w hst => ?_)
  replace hst : St M w0 51 [(10, tv (.int .u64 (IntKind.u64.wrap ((iand .u64 x_ (4294967295:Int)) * (iand .u64 y_ (4294967295:Int)))))), (9, tv (.int .u64 (ishr .u64 y_ (32:Int)))), (8, tv (.int .u64 (iand .u64 y_ (4294967295:Int)))), (7, tv (.int .u64 (ishr .u64 x_ (32:Int)))), (6, tv (.int .u64 (iand .u64 x_ (4294967295:Int)))), (0, tv (.int .u64 x_)), (1, tv (.int .u64 y_))] [] a w := (hst.pick [3, 4, 5, 6, 7, 8, 9])
  refine hK6 _ _ ?_
  try clear hK6 K6
  refine wp_seq_k (fun K7 hK7 => ?_)
  refine wp_reg mixed [] hst (fun _ => .p rfl (op_move (.t 3 rfl)) <| .p rfl (op_move (.t 3 rfl)) <| .p rfl (op_mul (.t 1 rfl) (.t 0 rfl)) <| .p rfl (op_move (.t 3 rfl)) <| .p rfl (op_ishr (.t 0 rfl) .k (by decide)) <| .p rfl (op_add (.t 2 rfl) (.t 0 rfl)) <| .p rfl (op_assign (.t 0 rfl)) <| .nil _ _) (by kernel_rfl) (fun n6 a w hst => ?_)
  replace hst : St M w0 51 [(11, tv (.int .u64 (IntKind.u64.wrap ((IntKind.u64.wrap ((ishr .u64 x_ (32:Int)) * (iand .u64 y_ (4294967295:Int)))) + (ishr .u64 (IntKind.u64.wrap ((iand .u64 x_ (4294967295:Int)) * (iand .u64 y_ (4294967295:Int)))) (32:Int)))))), (9, tv (.int .u64 (ishr .u64 y_ (32:Int)))), (7, tv (.int .u64 (ishr .u64 x_ (32:Int)))), (6, tv (.int .u64 (iand .u64 x_ (4294967295:Int)))), (0, tv (.int .u64 x_)), (1, tv (.int .u64 y_))] [] a w := (hst.pick [6, 8, 10, 11, 12, 13])
  refine hK7 _ _ ?_
  try clear hK7 K7
  refine wp_seq_k (fun K8 hK8 => ?_)
  refine wp_reg mixed [] hst (fun _ => .p rfl (op_move (.t 0 rfl)) <| .p rfl (op_iand (.t 0 rfl) .k) <| .p rfl (op_assign (.t 0 rfl)) <| .nil _ _) (by kernel_rfl) (fun n7 a w hst => ?_)
  replace hst : St M w0 51 [(12, tv (.int .u64 (iand .u64 (IntKind.u64.wrap ((IntKind.u64.wrap ((ishr .u64 x_ (32:Int)) * (iand .u64 y_ (4294967295:Int)))) + (ishr .u64 (IntKind.u64.wrap ((iand .u64 x_ (4294967295:Int)) * (iand .u64 y_ (4294967295:Int)))) (32:Int)))) (4294967295:Int)))), (11, tv (.int .u64 (IntKind.u64.wrap ((IntKind.u64.wrap ((ishr .u64 x_ (32:Int)) * (iand .u64 y_ (4294967295:Int)))) + (ishr .u64 (IntKind.u64.wrap ((iand .u64 x_ (4294967295:Int)) * (iand .u64 y_ (4294967295:Int)))) (32:Int)))))), (9, tv (.int .u64 (ishr .u64 y_ (32:Int)))), (7, tv (.int .u64 (ishr .u64 x_ (32:Int)))), (6, tv (.int .u64 (iand .u64 x_ (4294967295:Int)))), (0, tv (.int .u64 x_)), (1, tv (.int .u64 y_))] [] a w := (hst.pick [2, 3, 4, 5, 6, 7, 8])
  refine hK8 _ _ ?_
  try clear hK8 K8
  refine wp_seq_k (fun K9 hK9 => ?_)
  refine wp_reg mixed [] hst (fun _ => .p rfl (op_move (.t 1 rfl)) <| .p rfl (op_ishr (.t 0 rfl) .k (by decide)) <| .p rfl (op_assign (.t 0 rfl)) <| .nil _ _) (by kernel_rfl) (fun n8 a w hst => ?_)
  replace hst : St M w0 51 [(13, tv (.int .u64 (ishr .u64 (IntKind.u64.wrap ((IntKind.u64.wrap ((ishr .u64 x_ (32:Int)) * (iand .u64 y_ (4294967295:Int)))) + (ishr .u64 (IntKind.u64.wrap ((iand .u64 x_ (4294967295:Int)) * (iand .u64 y_ (4294967295:Int)))) (32:Int)))) (32:Int)))), (12, tv (.int .u64 (iand .u64 (IntKind.u64.wrap ((IntKind.u64.wrap ((ishr .u64 x_ (32:Int)) * (iand .u64 y_ (4294967295:Int)))) + (ishr .u64 (IntKind.u64.wrap ((iand .u64 x_ (4294967295:Int)) * (iand .u64 y_ (4294967295:Int)))) (32:Int)))) (4294967295:Int)))), (9, tv (.int .u64 (ishr .u64 y_ (32:Int)))), (7, tv (.int .u64 (ishr .u64 x_ (32:Int)))), (6, tv (.int .u64 (iand .u64 x_ (4294967295:Int)))), (0, tv (.int .u64 x_)), (1, tv (.int .u64 y_))] [] a w := (hst.pick [2, 3, 5, 6, 7, 8, 9])
  refine hK9 _ _ ?_
  try clear hK9 K9
  refine wp_seq_k (fun K10 hK10 => ?_)
  refine wp_reg mixed [] hst (fun _ => .p rfl (op_move (.t 1 rfl)) <| .p rfl (op_move (.t 5 rfl)) <| .p rfl (op_move (.t 4 rfl)) <| .p rfl (op_mul (.t 1 rfl) (.t 0 rfl)) <| .p rfl (op_add (.t 3 rfl) (.t 0 rfl)) <| .p rfl (op_assign (.t 0 rfl)) <| .nil _ _) (by kernel_rfl) (fun n9 a w hst => ?_)
  replace hst : St M w0 51 [(12, tv (.int .u64 (IntKind.u64.wrap ((iand .u64 (IntKind.u64.wrap ((IntKind.u64.wrap ((ishr .u64 x_ (32:Int)) * (iand .u64 y_ (4294967295:Int)))) + (ishr .u64 (IntKind.u64.wrap ((iand .u64 x_ (4294967295:Int)) * (iand .u64 y_ (4294967295:Int)))) (32:Int)))) (4294967295:Int)) + (IntKind.u64.wrap ((iand .u64 x_ (4294967295:Int)) * (ishr .u64 y_ (32:Int)))))))), (13, tv (.int .u64 (ishr .u64 (IntKind.u64.wrap ((IntKind.u64.wrap ((ishr .u64 x_ (32:Int)) * (iand .u64 y_ (4294967295:Int)))) + (ishr .u64 (IntKind.u64.wrap ((iand .u64 x_ (4294967295:Int)) * (iand .u64 y_ (4294967295:Int)))) (32:Int)))) (32:Int)))), (9, tv (.int .u64 (ishr .u64 y_ (32:Int)))), (7, tv (.int .u64 (ishr .u64 x_ (32:Int)))), (0, tv (.int .u64 x_)), (1, tv (.int .u64 y_))] [] a w := (hst.pick [5, 6, 7, 8, 10, 11])
  refine hK10 _ _ ?_
  try clear hK10 K10
  refine wp_seq_k (fun K11 hK11 => ?_)
  refine wp_reg mixed [] hst (fun _ => .p rfl (op_move (.t 3 rfl)) <| .p rfl (op_move (.t 3 rfl)) <| .p rfl (op_mul (.t 1 rfl) (.t 0 rfl)) <| .p rfl (op_move (.t 4 rfl)) <| .p rfl (op_add (.t 1 rfl) (.t 0 rfl)) <| .p rfl (op_move (.t 5 rfl)) <| .p rfl (op_ishr (.t 0 rfl) .k (by decide)) <| .p rfl (op_add (.t 2 rfl) (.t 0 rfl)) <| .p rfl (op_assign (.t 0 rfl)) <| .nil _ _) (by kernel_rfl) (fun n10 a w hst => ?_)
  replace hst : St M w0 51 [(4, tv (.int .u64 (IntKind.u64.wrap ((IntKind.u64.wrap ((IntKind.u64.wrap ((ishr .u64 x_ (32:Int)) * (ishr .u64 y_ (32:Int)))) + (ishr .u64 (IntKind.u64.wrap ((IntKind.u64.wrap ((ishr .u64 x_ (32:Int)) * (iand .u64 y_ (4294967295:Int)))) + (ishr .u64 (IntKind.u64.wrap ((iand .u64 x_ (4294967295:Int)) * (iand .u64 y_ (4294967295:Int)))) (32:Int)))) (32:Int)))) + (ishr .u64 (IntKind.u64.wrap ((iand .u64 (IntKind.u64.wrap ((IntKind.u64.wrap ((ishr .u64 x_ (32:Int)) * (iand .u64 y_ (4294967295:Int)))) + (ishr .u64 (IntKind.u64.wrap ((iand .u64 x_ (4294967295:Int)) * (iand .u64 y_ (4294967295:Int)))) (32:Int)))) (4294967295:Int)) + (IntKind.u64.wrap ((iand .u64 x_ (4294967295:Int)) * (ishr .u64 y_ (32:Int)))))) (32:Int)))))), (0, tv (.int .u64 x_)), (1, tv (.int .u64 y_))] [] a w := (hst.pick [8, 13, 14])
  refine hK11 _ _ ?_
  try clear hK11 K11
  refine wp_seq_k (fun K12 hK12 => ?_)
  refine wp_reg mixed [] hst (fun _ => .p rfl (op_move (.t 1 rfl)) <| .p rfl (op_move (.t 3 rfl)) <| .p rfl (op_mul (.t 1 rfl) (.t 0 rfl)) <| .p rfl (op_assign (.t 0 rfl)) <| .nil _ _) (by kernel_rfl) (fun n11 a w hst => ?_)
  replace hst : St M w0 51 [(5, tv (.int .u64 (IntKind.u64.wrap (x_ * y_)))), (4, tv (.int .u64 (IntKind.u64.wrap ((IntKind.u64.wrap ((IntKind.u64.wrap ((ishr .u64 x_ (32:Int)) * (ishr .u64 y_ (32:Int)))) + (ishr .u64 (IntKind.u64.wrap ((IntKind.u64.wrap ((ishr .u64 x_ (32:Int)) * (iand .u64 y_ (4294967295:Int)))) + (ishr .u64 (IntKind.u64.wrap ((iand .u64 x_ (4294967295:Int)) * (iand .u64 y_ (4294967295:Int)))) (32:Int)))) (32:Int)))) + (ishr .u64 (IntKind.u64.wrap ((iand .u64 (IntKind.u64.wrap ((IntKind.u64.wrap ((ishr .u64 x_ (32:Int)) * (iand .u64 y_ (4294967295:Int)))) + (ishr .u64 (IntKind.u64.wrap ((iand .u64 x_ (4294967295:Int)) * (iand .u64 y_ (4294967295:Int)))) (32:Int)))) (4294967295:Int)) + (IntKind.u64.wrap ((iand .u64 x_ (4294967295:Int)) * (ishr .u64 y_ (32:Int)))))) (32:Int))))))] [] a w := (hst.pick [3, 4])
  refine hK12 _ _ ?_
  try clear hK12 K12
  refine wp_ret ?_
  obtain rfl := Option.some.inj h
  exact ret_st undef [] hpl hst rfl (.tmp (.t 1 rfl) (.tmp (.t 0 rfl) .nil)) rfl rfl rfl

/- math/bits.Mul32 -/
noncomputable def fBMul32 (x_ : Int) (y_ : Int) : Option (Int × Int) := (some ((IntKind.u32.wrap (ishr .u64 (IntKind.u64.wrap ((IntKind.u64.wrap x_) * (IntKind.u64.wrap y_))) (32:Int))), (IntKind.u32.wrap (IntKind.u64.wrap ((IntKind.u64.wrap x_) * (IntKind.u64.wrap y_))))))
set_option maxRecDepth 100000 in
set_option maxHeartbeats 4000000 in
theorem BMul32_ok {x_ : Int} {y_ : Int} {r : Int × Int} (h : fBMul32 x_ y_ = some r) : FnOk Try.prog 88 [tv (.int .u32 x_), tv (.int .u32 y_)] [] (fun _ => []) (fun _ => ttup [tv (.int .u32 r.1), tv (.int .u32 r.2)]) := by
  unfold fBMul32 at h
  refine FnOk.enter Try.func88 rfl Try.ntmps88 (Nat.le_of_ble_eq_true rfl) (fun M0 M w0 a hpl hst => ?_)
  replace hst : St M w0 17 [(0, tv (.int .u32 x_)), (1, tv (.int .u32 y_))] [] a w0 := hst
  refine wp_seq_k (fun K1 hK1 => ?_)
  refine wp_reg mixed [] hst (fun _ => .p rfl (op_assign .k) <| .p rfl (op_assign .k) <| .nil _ _) (by kernel_rfl) (fun n0 a w hst => ?_)
  replace hst : St M w0 17 [(0, tv (.int .u32 x_)), (1, tv (.int .u32 y_))] [] a w := (hst.pick [2, 3])
  refine hK1 _ _ ?_
  try clear hK1 K1
  refine wp_seq_k (fun K2 hK2 => ?_)
  refine wp_reg mixed [] hst (fun _ => .p rfl (op_move (.t 0 rfl)) <| .p rfl (op_conv Try.underlying110 Try.underlying78 (.t 0 rfl)) <| .p rfl (op_move (.t 3 rfl)) <| .p rfl (op_conv Try.underlying110 Try.underlying78 (.t 0 rfl)) <| .p rfl (op_mul (.t 2 rfl) (.t 0 rfl)) <| .p rfl (op_assign (.t 0 rfl)) <| .nil _ _) (by kernel_rfl) (fun n1 a w hst => ?_)
  replace hst : St M w0 17 [(6, tv (.int .u64 (IntKind.u64.wrap ((IntKind.u64.wrap x_) * (IntKind.u64.wrap y_)))))] [] a w := (hst.pick [5])
  refine hK2 _ _ ?_
  try clear hK2 K2
  refine wp_seq_k (fun K3 hK3 => ?_)
  refine wp_reg mixed [] hst (fun _ => .p rfl (op_move (.t 0 rfl)) <| .p rfl (op_ishr (.t 0 rfl) .k (by decide)) <| .p rfl (op_conv Try.underlying78 Try.underlying110 (.t 0 rfl)) <| .p rfl (op_move (.t 3 rfl)) <| .p rfl (op_conv Try.underlying78 Try.underlying110 (.t 0 rfl)) <| .p rfl (op_assign (.t 2 rfl)) <| .p rfl (op_assign (.t 1 rfl)) <| .nil _ _) (by kernel_rfl) (fun n2 a w hst => ?_)
  replace hst : St M w0 17 [(4, tv (.int .u32 (IntKind.u32.wrap (ishr .u64 (IntKind.u64.wrap ((IntKind.u64.wrap x_) * (IntKind.u64.wrap y_))) (32:Int))))), (5, tv (.int .u32 (IntKind.u32.wrap (IntKind.u64.wrap ((IntKind.u64.wrap x_) * (IntKind.u64.wrap y_))))))] [] a w := (hst.pick [5, 6])
  refine hK3 _ _ ?_
  try clear hK3 K3
  refine wp_ret ?_
  obtain rfl := Option.some.inj h
  exact ret_st undef [] hpl hst rfl (.tmp (.t 0 rfl) (.tmp (.t 1 rfl) .nil)) rfl rfl rfl

/- math/bits.Mul -/
noncomputable def fBMul (x_ : Int) (y_ : Int) : Option (Int × Int) := (fBMul64 x_ y_).bind fun t25 => (some (t25.1, t25.2))
set_option maxRecDepth 100000 in
set_option maxHeartbeats 4000000 in
theorem BMul_ok {x_ : Int} {y_ : Int} {r : Int × Int} (h : fBMul x_ y_ = some r) : FnOk Try.prog 87 [tv (.int .u64 x_), tv (.int .u64 y_)] [] (fun _ => []) (fun _ => ttup [tv (.int .u64 r.1), tv (.int .u64 r.2)]) := by
  unfold fBMul at h
  refine FnOk.enter Try.func87 rfl Try.ntmps87 (Nat.le_of_ble_eq_true rfl) (fun M0 M w0 a hpl hst => ?_)
  replace hst : St M w0 30 [(0, tv (.int .u64 x_)), (1, tv (.int .u64 y_))] [] a w0 := hst
  refine wp_seq_k (fun K1 hK1 => ?_)
  refine wp_reg mixed [] hst (fun _ => .p rfl (op_assign .k) <| .p rfl (op_assign .k) <| .nil _ _) (by kernel_rfl) (fun n0 a w hst => ?_)
  replace hst : St M w0 30 [(0, tv (.int .u64 x_)), (1, tv (.int .u64 y_))] [] a w := (hst.pick [2, 3])
  refine hK1 _ _ ?_
  try clear hK1 K1
  refine wp_seq_k (fun K2 hK2 => ?_)
  refine wp_constF ?_
  refine wp_skip ?_
  refine hK2 _ _ ?_
  try clear hK2 K2
  refine wp_seq_k (fun K3 hK3 => ?_)
  obtain ⟨t25, ht25, h⟩ := bind_some h
  refine wp_reg mixed [] hst (fun _ => .p rfl (op_move (.t 0 rfl)) <| .p rfl (op_move (.t 2 rfl)) <| .p rfl (op_callF call89 (BMul64_ok ht25) (.cons (.of (.t 1 rfl)) <| .cons (.of (.t 0 rfl)) <| .nil)) <| .p rfl (op_move (.t 0 rfl)) <| .p rfl (op_extract (.t 0 rfl) rfl) <| .p rfl (op_extract (.t 1 rfl) rfl) <| .p rfl (op_assign (.t 1 rfl)) <| .p rfl (op_assign (.t 1 rfl)) <| .nil _ _) (by kernel_rfl) (fun n3 a w hst => ?_)
  replace hst : St M w0 30 [(8, tv (.int .u64 t25.1)), (9, tv (.int .u64 t25.2))] [] a w := (hst.pick [6, 7])
  refine hK3 _ _ ?_
  try clear hK3 K3
  refine wp_seq_k (fun K4 hK4 => ?_)
  refine wp_reg mixed [] hst (fun _ => .p rfl (op_move (.t 0 rfl)) <| .p rfl (op_move (.t 2 rfl)) <| .p rfl (op_assign (.t 1 rfl)) <| .p rfl (op_assign (.t 1 rfl)) <| .nil _ _) (by kernel_rfl) (fun n4 a w hst => ?_)
  replace hst : St M w0 30 [(4, tv (.int .u64 t25.1)), (5, tv (.int .u64 t25.2))] [] a w := (hst.pick [2, 3])
  refine hK4 _ _ ?_
  try clear hK4 K4
  refine wp_ret ?_
  obtain rfl := Option.some.inj h
  exact ret_st undef [] hpl hst rfl (.tmp (.t 0 rfl) (.tmp (.t 1 rfl) .nil)) rfl rfl rfl

/- diorama/dioramaref14.SameTables -/
noncomputable def fSameTables (a_ : (List (List Int))) (b_ : (List (List Int))) : Option (Bool) := (if ((a_.length : Int) != (b_.length : Int)) = true then (some false) else (tailrec (fun (s7 : Int) => ((if (decide (s7 < (a_.length : Int))) = true then (idx a_ s7).bind fun t19 => (idx b_ s7).bind fun t23 => (fSameInts t19 t23).bind fun t25 => (if (!t25) = true then (some (.inr (.inr false))) else (some (.inl (IntKind.i64.wrap (s7 + (1:Int)))))) else (some (.inr (.inl ())))) : Option ((Int) ⊕ ((Unit) ⊕ (Bool))))) (0:Int)).bind fun (e8 : (Unit) ⊕ (Bool)) => (match e8 with | .inl p16 => (some true) | .inr p17 => (some p17)))
set_option maxRecDepth 100000 in
set_option maxHeartbeats 4000000 in
theorem SameTables_ok {a_ : (List (List Int))} {b_ : (List (List Int))} {r : Bool} (h : fSameTables a_ b_ = some r) : FnOk Try.prog 36 [tsl (rSl rI) a_, tsl (rSl rI) b_] [] (fun _ => []) (fun _ => tb r) := by
  unfold fSameTables at h
  refine FnOk.enter Try.func36 rfl Try.ntmps36 (Nat.le_of_ble_eq_true rfl) (fun M0 M w0 a hpl hst => ?_)
  replace hst : St M w0 27 [(0, tsl (rSl rI) a_), (1, tsl (rSl rI) b_)] [] a w0 := hst
  refine wp_seq_k (fun K1 hK1 => ?_)
  refine wp_reg mixed [] hst (fun _ => .p rfl (op_assign .k) <| .nil _ _) (by kernel_rfl) (fun n0 a w hst => ?_)
  replace hst : St M w0 27 [(0, tsl (rSl rI) a_), (1, tsl (rSl rI) b_)] [] a w := (hst.pick [1, 2])
  refine hK1 _ _ ?_
  try clear hK1 K1
  refine wp_seq_k (fun K2 hK2 => ?_)
  refine wp_seq_k (fun K3 hK3 => ?_)
  refine wp_reg mixed [] hst (fun _ => .p rfl (op_move (.t 0 rfl)) <| .p rfl (op_len Try.underlying26 (.t 0 rfl)) <| .p rfl (op_move (.t 3 rfl)) <| .p rfl (op_len Try.underlying26 (.t 0 rfl)) <| .p rfl (op_neq (.t 2 rfl) (.t 0 rfl)) <| .nil _ _) (by kernel_rfl) (fun n1 a w hst => ?_)
  replace hst : St M w0 27 [(10, tb ((a_.length : Int) != (b_.length : Int))), (0, tsl (rSl rI) a_), (1, tsl (rSl rI) b_)] [] a w := (hst.pick [4, 5, 6])
  refine hK3 _ _ ?_
  try clear hK3 K3
  refine wp_test 0 hst rfl (fun b27 => ?_) (fun b27 => ?_)
  · replace h := ite_t b27 h
    refine wp_seq_k (fun K4 hK4 => ?_)
    refine wp_reg mixed [] hst (fun _ => .p rfl (op_assign .k) <| .nil _ _) (by kernel_rfl) (fun n2 a w hst => ?_)
    replace hst : St M w0 27 [(4, tb false)] [] a w := (hst.pick [0])
    refine hK4 _ _ ?_
    try clear hK4 K4
    refine wp_ret ?_
    obtain rfl := Option.some.inj h
    exact ret_st undef [] hpl hst rfl (.tmp (.t 0 rfl) .nil) rfl rfl rfl
  · replace h := ite_f b27 h
    refine wp_skip ?_
    refine hK2 _ _ ?_
    try clear hK2 K2
    refine wp_seq_k (fun K5 hK5 => ?_)
    refine wp_seq_k (fun K6 hK6 => ?_)
    refine wp_reg mixed [] hst (fun _ => .p rfl (op_assign .k) <| .nil _ _) (by kernel_rfl) (fun n3 a w hst => ?_)
    replace hst : St M w0 27 [(5, ti (0:Int)), (0, tsl (rSl rI) a_), (1, tsl (rSl rI) b_)] [] a w := (hst.pick [0, 2, 3])
    refine hK6 _ _ ?_
    try clear hK6 K6
    obtain ⟨e8, he8, h⟩ := bind_some h
    have hJp16 : ∀ (p16 : Unit) a w, (.inl p16) = e8 → St M w0 27 [] [] a w → K5 a w := by
      intro p16 a w he hst
      subst he
      simp only at h
      refine hK5 _ _ ?_
      try clear hK5 K5
      refine wp_seq_k (fun K18 hK18 => ?_)
      refine wp_reg mixed [] hst (fun _ => .p rfl (op_assign .k) <| .nil _ _) (by kernel_rfl) (fun n8 a w hst => ?_)
      replace hst : St M w0 27 [(4, tb true)] [] a w := (hst.pick [0])
      refine hK18 _ _ ?_
      try clear hK18 K18
      refine wp_ret ?_
      obtain rfl := Option.some.inj h
      exact ret_st undef [] hpl hst rfl (.tmp (.t 0 rfl) .nil) rfl rfl rfl
    have hJp17 : ∀ (p17 : Bool) a w, (.inr p17) = e8 → St M w0 27 [(4, tb p17)] [] a w → Ret Try.prog Try.f36 M0 [] w0 (fun _ => []) (fun _ => tb r) .ret a w := by
      intro p17 a w he hst
      subst he
      simp only at h
      obtain rfl := Option.some.inj h
      exact ret_st undef [] hpl hst rfl (.tmp (.t 0 rfl) .nil) rfl rfl rfl
    refine wp_block ?_
    refine wp_loopK _ (fun (s7 : Int) a w => St M w0 27 [(5, ti s7), (0, tsl (rSl rI) a_), (1, tsl (rSl rI) b_)] [] a w) _ _ he8 (hst.pick [0, 1, 2]) ?_
    clear h
    intro s7 o a w K19 hI h ho hK19
    have hst := hI
    clear hI
    refine wp_seq_k (fun K20 hK20 => ?_)
    refine wp_seq_k (fun K21 hK21 => ?_)
    refine wp_reg mixed [] hst (fun _ => .p rfl (op_move (.t 0 rfl)) <| .p rfl (op_move (.t 2 rfl)) <| .p rfl (op_len Try.underlying26 (.t 0 rfl)) <| .p rfl (op_lss (.t 2 rfl) (.t 0 rfl)) <| .nil _ _) (by kernel_rfl) (fun n4 a w hst => ?_)
    replace hst : St M w0 27 [(14, tb (decide (s7 < (a_.length : Int)))), (5, ti s7), (0, tsl (rSl rI) a_), (1, tsl (rSl rI) b_)] [] a w := (hst.pick [3, 4, 5, 6])
    refine hK21 _ _ ?_
    try clear hK21 K21
    refine wp_test 0 hst rfl (fun b26 => ?_) (fun b26 => ?_)
    · replace h := ite_t b26 h
      refine wp_skip ?_
      refine hK20 _ _ ?_
      try clear hK20 K20
      refine wp_seq_k (fun K22 hK22 => ?_)
      refine wp_block ?_
      refine wp_seq_k (fun K23 hK23 => ?_)
      obtain ⟨t19, ht19, h⟩ := bind_some h
      obtain ⟨t23, ht23, h⟩ := bind_some h
      obtain ⟨t25, ht25, h⟩ := bind_some h
      refine wp_reg mixed [] hst (fun _ => .p rfl (op_move (.t 2 rfl)) <| .p rfl (op_move (.t 2 rfl)) <| .p rfl (op_index Try.underlying26 tok22 (.t 1 rfl) (.t 0 rfl) ht19) <| .p rfl (op_load tok22 (.t 0 rfl)) <| .p rfl (op_move (.t 7 rfl)) <| .p rfl (op_move (.t 6 rfl)) <| .p rfl (op_index Try.underlying26 tok22 (.t 1 rfl) (.t 0 rfl) ht23) <| .p rfl (op_load tok22 (.t 0 rfl)) <| .p rfl (op_callF call18 (SameInts_ok ht25) (.cons (.of (.t 4 rfl)) <| .cons (.of (.t 0 rfl)) <| .nil)) <| .p rfl (op_not (.t 0 rfl)) <| .nil _ _) (by kernel_rfl) (fun n6 a w hst => ?_)
      replace hst : St M w0 27 [(26, tb (!t25)), (5, ti s7), (0, tsl (rSl rI) a_), (1, tsl (rSl rI) b_)] [] a w := (hst.pick [9, 11, 12, 13])
      refine hK23 _ _ ?_
      try clear hK23 K23
      refine wp_test 0 hst rfl (fun b25 => ?_) (fun b25 => ?_)
      · replace h := ite_t b25 h
        refine wp_seq_k (fun K24 hK24 => ?_)
        refine wp_reg mixed [] hst (fun _ => .p rfl (op_assign .k) <| .nil _ _) (by kernel_rfl) (fun n7 a w hst => ?_)
        replace hst : St M w0 27 [(4, tb false)] [] a w := (hst.pick [0])
        refine hK24 _ _ ?_
        try clear hK24 K24
        refine wp_ret ?_
        exact hJp17 _ _ _ (ho _ (Option.some.inj h).symm) (hst.pick [0])
      · replace h := ite_f b25 h
        refine wp_skip ?_
        refine hK22 _ _ ?_
        try clear hK22 K22
        refine wp_reg mixed [] hst (fun _ => .p rfl (op_move (.t 1 rfl)) <| .p rfl (op_add (.t 0 rfl) .k) <| .p rfl (op_assign (.t 0 rfl)) <| .nil _ _) (by kernel_rfl) (fun n5 a w hst => ?_)
        replace hst : St M w0 27 [(5, ti (IntKind.i64.wrap (s7 + (1:Int)))), (0, tsl (rSl rI) a_), (1, tsl (rSl rI) b_)] [] a w := (hst.pick [2, 4, 5])
        exact hK19 _ _ _ (Option.some.inj h).symm (hst.pick [0, 1, 2])
    · replace h := ite_f b26 h
      refine wp_exit ?_
      exact hJp16 _ _ _ (ho _ (Option.some.inj h).symm) (hst.pick [])


end Go.Proofs.Ytjniiejgccdhiaa
