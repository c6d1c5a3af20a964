/- Go functions as Lean functions, and the proofs that they compute them, written by a program. No condition. -/
import Derived.Test.YtjniiejgccdhiaaBenF
namespace Go.Proofs.Ytjniiejgccdhiaa
open Go.Sim

/- diorama/dioramalaw14.BoundsContradiction -/
noncomputable def fBoundsContradiction (l_ : (List Int)) (turn_ : Int) : Option (Bool) := (fMade14 l_).bind fun t22 => (fown14 t22.2).bind fun t28 => (fClose t22.1 t28).bind fun t29 => (fown14 t22.2).bind fun t35 => (fCycle t22.1 t35).bind fun t36 => (if (((t29.2 == (0:Int)) != (t36.2 == (6:Int))) || ((t29.2 == (14:Int)) != (t36.2 == (0:Int)))) = true then (some false) else (fAround turn_ (IntKind.i64.wrap ((t22.2.length : Int) + (1:Int)))).bind fun t55 => (sub t22.2 t55 (t22.2.length : Int)).bind fun t59 => (rm (([] : List SDiff).length + t59.length)).bind fun _ => (sub t22.2 (0:Int) t55).bind fun t63 => (rm ((([] : List SDiff) ++ t59).length + t63.length)).bind fun _ => (fown14 ((([] : List SDiff) ++ t59) ++ t63)).bind fun t68 => (fClose t22.1 t68).bind fun t69 => (opt ((t69.2 != t29.2) == false) (fSameTables t69.1 t29.1) default).bind fun t78 => (if ((t69.2 != t29.2) || (!t78)) = true then (some false) else (tailrec (fun (s19 : Int) => ((if (decide (s19 < (t36.1.length : Int))) = true then (tailrec (fun (s80 : Int × List SDiff) => ((if (decide (s80.1 < (t36.1.length : Int))) = true then (idx t36.1 s80.1).bind fun t95 => (opt ((decide (t95 < (0:Int))) == false) (idx t36.1 s80.1) default).bind fun t101 => (if ((decide (t95 < (0:Int))) || (decide (t101 ≥ (t22.2.length : Int)))) = true then (some (.inr (.inr false))) else ((if (s80.1 != s19) = true then (idx t36.1 s80.1).bind fun t114 => (idx t22.2 t114).bind fun t116 => (idx t36.1 s80.1).bind fun t122 => (idx t22.2 t122).bind fun t124 => (idx t36.1 s80.1).bind fun t130 => (idx t22.2 t130).bind fun t132 => (rm (s80.2.length + [(SDiff.mk (t116).A (t124).B (t132).N)].length)).bind fun _ => (some (s80.2 ++ [(SDiff.mk (t116).A (t124).B (t132).N)])) else (some s80.2))).bind fun (p114 : List SDiff) => (some (.inl ((IntKind.i64.wrap (s80.1 + (1:Int))), p114)))) else (some (.inr (.inl s80.2)))) : Option ((Int × List SDiff) ⊕ ((List SDiff) ⊕ (Bool))))) ((0:Int), ([] : List SDiff))).bind fun (e82 : (List SDiff) ⊕ (Bool)) => (match e82 with | .inl p96 => (if (t36.2 != (0:Int)) = true then (some (.inr (.inl ()))) else (fClose t22.1 p96).bind fun t143 => (if (((decide (s19 < (0:Int))) && (t143.2 != (14:Int))) || ((decide (s19 ≥ (0:Int))) && (t143.2 != (0:Int)))) = true then (some (.inr (.inr false))) else (some (.inl (IntKind.i64.wrap (s19 + (1:Int))))))) | .inr p98 => (some (.inr (.inr p98)))) else (some (.inr (.inl ())))) : Option ((Int) ⊕ ((Unit) ⊕ (Bool))))) (-1:Int)).bind fun (e20 : (Unit) ⊕ (Bool)) => (match e20 with | .inl p69 => (flives14).bind fun t160 => (some t160) | .inr p70 => (some p70))))
set_option maxRecDepth 100000 in
set_option maxHeartbeats 4000000 in
theorem BoundsContradiction_ok {l_ : (List Int)} {turn_ : Int} {r : Bool} (h : fBoundsContradiction l_ turn_ = some r) : FnOk Try.prog 10 [tsl rI l_, ti turn_] [] (fun _ => []) (fun _ => tb r) := by
  unfold fBoundsContradiction at h
  refine FnOk.enter Try.func10 rfl Try.ntmps10 (Nat.le_of_ble_eq_true rfl) (fun M0 M w0 a hpl hst => ?_)
  replace hst : St M w0 161 [(0, tsl rI l_), (1, ti turn_)] [] a w0 := hst
  refine wp_seq_k (fun K1 hK1 => ?_)
  refine wp_reg mixed [] hst (fun _ => .p rfl (op_assign .k) <| .nil _ _) (by kernel_rfl) (fun n0 a w hst => ?_)
  replace hst : St M w0 161 [(0, tsl rI l_), (1, ti turn_)] [] a w := (hst.pick [1, 2])
  refine hK1 _ _ ?_
  try clear hK1 K1
  refine wp_seq_k (fun K2 hK2 => ?_)
  obtain ⟨t22, ht22, h⟩ := bind_some h
  refine wp_reg mixed [] hst (fun _ => .p rfl (op_move (.t 0 rfl)) <| .p rfl (op_callF call29 ((Made14_ok ht22).ro ro_tup1) (.cons (.of (.t 0 rfl)) <| .nil)) <| .p rfl (op_move (.t 0 rfl)) <| .p rfl (op_extract (.t 0 rfl) rfl) <| .p rfl (op_extract (.t 1 rfl) rfl) <| .p rfl (op_assign (.t 1 rfl)) <| .p rfl (op_assign (.t 1 rfl)) <| .nil _ _) (by kernel_rfl) (fun n1 a w hst => ?_)
  replace hst : St M w0 161 [(5, ti t22.1), (6, tsl rSDiff t22.2), (1, ti turn_)] [] a w := (hst.pick [5, 6, 8])
  refine hK2 _ _ ?_
  try clear hK2 K2
  refine wp_seq_k (fun K3 hK3 => ?_)
  obtain ⟨t28, ht28, h⟩ := bind_some h
  obtain ⟨t29, ht29, h⟩ := bind_some h
  refine wp_reg mixed [] hst (fun _ => .p rfl (op_move (.t 0 rfl)) <| .p rfl (op_move (.t 2 rfl)) <| .p rfl (op_callF call32 ((own14_ok ht28).ro ro_self) (.cons (.of (.t 0 rfl)) <| .nil)) <| .p rfl (op_callF call31 (Close_ok ht29) (.cons (.of (.t 2 rfl)) <| .cons (.of (.t 0 rfl)) <| .nil)) <| .p rfl (op_move (.t 0 rfl)) <| .p rfl (op_extract (.t 0 rfl) rfl) <| .p rfl (op_extract (.t 1 rfl) rfl) <| .p rfl (op_assign (.t 1 rfl)) <| .p rfl (op_assign (.t 1 rfl)) <| .nil _ _) (by kernel_rfl) (fun n2 a w hst => ?_)
  replace hst : St M w0 161 [(7, tsl (rSl rI) t29.1), (8, ti t29.2), (5, ti t22.1), (6, tsl rSDiff t22.2), (1, ti turn_)] [] a w := (hst.pick [7, 8, 9, 10, 11])
  refine hK3 _ _ ?_
  try clear hK3 K3
  refine wp_seq_k (fun K4 hK4 => ?_)
  obtain ⟨t35, ht35, h⟩ := bind_some h
  obtain ⟨t36, ht36, h⟩ := bind_some h
  refine wp_reg mixed [] hst (fun _ => .p rfl (op_move (.t 2 rfl)) <| .p rfl (op_move (.t 4 rfl)) <| .p rfl (op_callF call32 ((own14_ok ht35).ro ro_self) (.cons (.of (.t 0 rfl)) <| .nil)) <| .p rfl (op_callF call34 (Cycle_ok ht36) (.cons (.of (.t 2 rfl)) <| .cons (.of (.t 0 rfl)) <| .nil)) <| .p rfl (op_move (.t 0 rfl)) <| .p rfl (op_extract (.t 0 rfl) rfl) <| .p rfl (op_extract (.t 1 rfl) rfl) <| .p rfl (op_assign (.t 1 rfl)) <| .p rfl (op_assign (.t 1 rfl)) <| .nil _ _) (by kernel_rfl) (fun n3 a w hst => ?_)
  replace hst : St M w0 161 [(9, tsl rI t36.1), (10, ti t36.2), (7, tsl (rSl rI) t29.1), (8, ti t29.2), (5, ti t22.1), (6, tsl rSDiff t22.2), (1, ti turn_)] [] a w := (hst.pick [7, 8, 9, 10, 11, 12, 13])
  refine hK4 _ _ ?_
  try clear hK4 K4
  refine wp_seq_k (fun K5 hK5 => ?_)
  refine wp_seq_k (fun K6 hK6 => ?_)
  refine wp_reg mixed [] hst (fun _ => .p rfl (op_move (.t 3 rfl)) <| .p rfl (op_eql (.t 0 rfl) .k) <| .p rfl (op_move (.t 3 rfl)) <| .p rfl (op_eql (.t 0 rfl) .k) <| .p rfl (op_neqB Try.underlying4 (.t 2 rfl) (.t 0 rfl)) <| .p rfl (op_move (.t 0 rfl)) <| .g rfl rfl (.b 0 rfl) (fun _ => op_move (.t 9 rfl)) <| .g rfl rfl (.b 1 rfl) (fun hc => op_eql (.cond (.t 0 rfl) hc) .k) <| .g rfl rfl (.b 2 rfl) (fun _ => op_move (.t 9 rfl)) <| .g rfl rfl (.b 3 rfl) (fun hc => op_eql (.cond (.t 0 rfl) hc) .k) <| .g rfl rfl (.b 4 rfl) (fun hc => op_neqB Try.underlying4 (.cond (.t 2 rfl) hc) (.cond (.t 0 rfl) hc)) <| .p rfl (op_or (.t 5 rfl) (fun hp => (.cond (.t 0 rfl) (beqF hp)))) <| .nil _ _) (by kernel_rfl) (fun n4 a w hst => ?_)
  replace hst : St M w0 161 [(50, tb (((t29.2 == (0:Int)) != (t36.2 == (6:Int))) || ((t29.2 == (14:Int)) != (t36.2 == (0:Int))))), (9, tsl rI t36.1), (10, ti t36.2), (7, tsl (rSl rI) t29.1), (8, ti t29.2), (5, ti t22.1), (6, tsl rSDiff t22.2), (1, ti turn_)] [] a w := (hst.pick [11, 12, 13, 14, 15, 16, 17, 18])
  refine hK6 _ _ ?_
  try clear hK6 K6
  refine wp_test 0 hst rfl (fun b122 => ?_) (fun b122 => ?_)
  · replace h := ite_t b122 h
    refine wp_seq_k (fun K7 hK7 => ?_)
    refine wp_reg mixed [] hst (fun _ => .p rfl (op_assign .k) <| .nil _ _) (by kernel_rfl) (fun n5 a w hst => ?_)
    replace hst : St M w0 161 [(4, tb false)] [] a w := (hst.pick [0])
    refine hK7 _ _ ?_
    try clear hK7 K7
    refine wp_ret ?_
    obtain rfl := Option.some.inj h
    exact ret_st undef [] hpl hst rfl (.tmp (.t 0 rfl) .nil) rfl rfl rfl
  · replace h := ite_f b122 h
    refine wp_skip ?_
    refine hK5 _ _ ?_
    try clear hK5 K5
    refine wp_seq_k (fun K8 hK8 => ?_)
    obtain ⟨t55, ht55, h⟩ := bind_some h
    refine wp_reg mixed [] hst (fun _ => .p rfl (op_move (.t 7 rfl)) <| .p rfl (op_move (.t 7 rfl)) <| .p rfl (op_len Try.underlying48 (.t 0 rfl)) <| .p rfl (op_add (.t 0 rfl) .k) <| .p rfl (op_callF call13 (Around_ok ht55) (.cons (.of (.t 3 rfl)) <| .cons (.of (.t 0 rfl)) <| .nil)) <| .p rfl (op_assign (.t 0 rfl)) <| .nil _ _) (by kernel_rfl) (fun n6 a w hst => ?_)
    replace hst : St M w0 161 [(11, ti t55), (9, tsl rI t36.1), (10, ti t36.2), (7, tsl (rSl rI) t29.1), (8, ti t29.2), (5, ti t22.1), (6, tsl rSDiff t22.2)] [] a w := (hst.pick [5, 7, 8, 9, 10, 11, 12])
    refine hK8 _ _ ?_
    try clear hK8 K8
    refine wp_seq_k (fun K9 hK9 => ?_)
    refine wp_reg mixed [] hst (fun _ => .p rfl (op_assign .k) <| .nil _ _) (by kernel_rfl) (fun n7 a w hst => ?_)
    replace hst : St M w0 161 [(12, tv (.slice none 0 0)), (11, ti t55), (9, tsl rI t36.1), (10, ti t36.2), (7, tsl (rSl rI) t29.1), (8, ti t29.2), (5, ti t22.1), (6, tsl rSDiff t22.2)] [own rSDiff 71 ([] : List SDiff) (.slice none 0 0)] a w := ((hst.pick [0, 1, 2, 3, 4, 5, 6, 7]).nil (rSDiff) 71)
    refine hK9 _ _ ?_
    try clear hK9 K9
    refine wp_seq_k (fun K11 hK11 => ?_)
    obtain ⟨t59, ht59, h⟩ := bind_some h
    obtain ⟨u60, hu60, h⟩ := bind_some h
    obtain ⟨t63, ht63, h⟩ := bind_some h
    obtain ⟨u64, hu64, h⟩ := bind_some h
    refine wp_reg mixed [v1 4 (fun v0 => own rSDiff 71 (([] : List SDiff) ++ t59) v0), v1 8 (fun v0 => own rSDiff 71 ((([] : List SDiff) ++ t59) ++ t63) v0)] hst (fun _ => .p rfl (op_move (.t 0 rfl)) <| .p rfl (op_move (.t 8 rfl)) <| .p rfl (op_move (.t 3 rfl)) <| .p rfl (op_slice Try.underlying48 tok71 (.t 1 rfl) (.op (.t 0 rfl)) (.no _) ht59) <| .e [] [0] [1] rfl rfl rfl rfl (op_append (R := rSDiff) Try.underlying48 tok71 (Nat.le_of_ble_eq_true rfl) (.t 3 rfl) (.t 0 rfl) hu60) <| .p rfl (op_move (.t 12 rfl)) <| .p rfl (op_move (.t 7 rfl)) <| .p rfl (op_slice Try.underlying48 tok71 (.t 1 rfl) (.no _) (.op (.t 0 rfl)) ht63) <| .e [] [1] [2] rfl rfl rfl rfl (op_append (R := rSDiff) Try.underlying48 tok71 (Nat.le_of_ble_eq_true rfl) (.t 3 rfl) (.t 0 rfl) hu64) <| .ud (f := fun v => tv v) 8 rfl [] rfl rfl (op_assign (.t 0 rfl)) <| .nil _ _) (by kernel_rfl) (fun n8 a w hst => ?_)
    replace hst : St M w0 161 [(64, tv (n8 8)), (12, tv (n8 8)), (9, tsl rI t36.1), (10, ti t36.2), (7, tsl (rSl rI) t29.1), (8, ti t29.2), (5, ti t22.1), (6, tsl rSDiff t22.2)] [own rSDiff 71 ((([] : List SDiff) ++ t59) ++ t63) (n8 8)] a w := (hst.pick [8, 9, 11, 12, 13, 14, 15, 16])
    refine hK11 _ _ ?_
    try clear hK11 K11
    refine wp_seq_k (fun K12 hK12 => ?_)
    replace hst : St M w0 161 [(12, tsl rSDiff ((([] : List SDiff) ++ t59) ++ t63)), (9, tsl rI t36.1), (10, ti t36.2), (7, tsl (rSl rI) t29.1), (8, ti t29.2), (5, ti t22.1), (6, tsl rSDiff t22.2)] [] a w := ((hst.shareO 1 rfl).pick [0, 3, 4, 5, 6, 7, 8])
    obtain ⟨t68, ht68, h⟩ := bind_some h
    obtain ⟨t69, ht69, h⟩ := bind_some h
    refine wp_reg mixed [] hst (fun _ => .p rfl (op_move (.t 5 rfl)) <| .p rfl (op_move (.t 1 rfl)) <| .p rfl (op_callF call32 ((own14_ok ht68).ro ro_self) (.cons (.of (.t 0 rfl)) <| .nil)) <| .p rfl (op_callF call31 (Close_ok ht69) (.cons (.of (.t 2 rfl)) <| .cons (.of (.t 0 rfl)) <| .nil)) <| .p rfl (op_move (.t 0 rfl)) <| .p rfl (op_extract (.t 0 rfl) rfl) <| .p rfl (op_extract (.t 1 rfl) rfl) <| .p rfl (op_assign (.t 1 rfl)) <| .p rfl (op_assign (.t 1 rfl)) <| .nil _ _) (by kernel_rfl) (fun n9 a w hst => ?_)
    replace hst : St M w0 161 [(13, tsl (rSl rI) t69.1), (14, ti t69.2), (9, tsl rI t36.1), (10, ti t36.2), (7, tsl (rSl rI) t29.1), (8, ti t29.2), (5, ti t22.1), (6, tsl rSDiff t22.2)] [] a w := (hst.pick [7, 8, 10, 11, 12, 13, 14, 15])
    refine hK12 _ _ ?_
    try clear hK12 K12
    refine wp_seq_k (fun K14 hK14 => ?_)
    refine wp_seq_k (fun K15 hK15 => ?_)
    obtain ⟨t78, ht78, h⟩ := bind_some h
    refine wp_reg mixed [] hst (fun _ => .p rfl (op_move (.t 1 rfl)) <| .p rfl (op_move (.t 6 rfl)) <| .p rfl (op_neq (.t 1 rfl) (.t 0 rfl)) <| .p rfl (op_move (.t 0 rfl)) <| .g rfl rfl (.b 0 rfl) (fun _ => op_move (.t 4 rfl)) <| .g rfl rfl (.b 1 rfl) (fun _ => op_move (.t 9 rfl)) <| .g rfl rfl (.b 2 rfl) (fun hc => op_callF call36 (SameTables_ok (opt_t ht78 hc)) (.cons (.of (.cond (.t 1 rfl) hc)) <| .cons (.of (.cond (.t 0 rfl) hc)) <| .nil)) <| .g rfl rfl (.b 3 rfl) (fun hc => op_not (.cond (.t 0 rfl) hc)) <| .p rfl (op_or (.t 4 rfl) (fun hp => (.cond (.t 0 rfl) (beqF hp)))) <| .nil _ _) (by kernel_rfl) (fun n10 a w hst => ?_)
    replace hst : St M w0 161 [(80, tb ((t69.2 != t29.2) || (!t78))), (9, tsl rI t36.1), (10, ti t36.2), (5, ti t22.1), (6, tsl rSDiff t22.2)] [] a w := (hst.pick [8, 11, 12, 15, 16])
    refine hK15 _ _ ?_
    try clear hK15 K15
    refine wp_test 0 hst rfl (fun b121 => ?_) (fun b121 => ?_)
    · replace h := ite_t b121 h
      refine wp_seq_k (fun K16 hK16 => ?_)
      refine wp_reg mixed [] hst (fun _ => .p rfl (op_assign .k) <| .nil _ _) (by kernel_rfl) (fun n11 a w hst => ?_)
      replace hst : St M w0 161 [(4, tb false)] [] a w := (hst.pick [0])
      refine hK16 _ _ ?_
      try clear hK16 K16
      refine wp_ret ?_
      obtain rfl := Option.some.inj h
      exact ret_st undef [] hpl hst rfl (.tmp (.t 0 rfl) .nil) rfl rfl rfl
    · replace h := ite_f b121 h
      refine wp_skip ?_
      refine hK14 _ _ ?_
      try clear hK14 K14
      refine wp_seq_k (fun K17 hK17 => ?_)
      refine wp_seq_k (fun K18 hK18 => ?_)
      refine wp_reg mixed [] hst (fun _ => .p rfl (op_assign .k) <| .nil _ _) (by kernel_rfl) (fun n12 a w hst => ?_)
      replace hst : St M w0 161 [(15, ti (-1:Int)), (9, tsl rI t36.1), (10, ti t36.2), (5, ti t22.1), (6, tsl rSDiff t22.2)] [] a w := (hst.pick [0, 2, 3, 4, 5])
      refine hK18 _ _ ?_
      try clear hK18 K18
      obtain ⟨e20, he20, h⟩ := bind_some h
      have hJp69 : ∀ (p69 : Unit) a w, (.inl p69) = e20 → St M w0 161 [] [] a w → K17 a w := by
        intro p69 a w he hst
        subst he
        simp only at h
        refine hK17 _ _ ?_
        try clear hK17 K17
        refine wp_seq_k (fun K71 hK71 => ?_)
        obtain ⟨t160, ht160, h⟩ := bind_some h
        refine wp_reg mixed [] hst (fun _ => .p rfl (op_callF call37 (lives14_ok ht160) (.nil)) <| .p rfl (op_assign (.t 0 rfl)) <| .nil _ _) (by kernel_rfl) (fun n27 a w hst => ?_)
        replace hst : St M w0 161 [(4, tb t160)] [] a w := (hst.pick [1])
        refine hK71 _ _ ?_
        try clear hK71 K71
        refine wp_ret ?_
        obtain rfl := Option.some.inj h
        exact ret_st undef [] hpl hst rfl (.tmp (.t 0 rfl) .nil) rfl rfl rfl
      have hJp70 : ∀ (p70 : Bool) a w, (.inr p70) = e20 → St M w0 161 [(4, tb p70)] [] a w → Ret Try.prog Try.f10 M0 [] w0 (fun _ => []) (fun _ => tb r) .ret a w := by
        intro p70 a w he hst
        subst he
        simp only at h
        obtain rfl := Option.some.inj h
        exact ret_st undef [] hpl hst rfl (.tmp (.t 0 rfl) .nil) rfl rfl rfl
      refine wp_block ?_
      refine wp_loopK _ (fun (s19 : Int) a w => St M w0 161 [(15, ti s19), (9, tsl rI t36.1), (10, ti t36.2), (5, ti t22.1), (6, tsl rSDiff t22.2)] [] a w) _ _ he20 (hst.pick [0, 1, 2, 3, 4]) ?_
      clear h
      intro s19 o a w K72 hI h ho hK72
      have hst := hI
      clear hI
      refine wp_seq_k (fun K73 hK73 => ?_)
      refine wp_seq_k (fun K74 hK74 => ?_)
      refine wp_reg mixed [] hst (fun _ => .p rfl (op_move (.t 0 rfl)) <| .p rfl (op_move (.t 2 rfl)) <| .p rfl (op_len Try.underlying22 (.t 0 rfl)) <| .p rfl (op_lss (.t 2 rfl) (.t 0 rfl)) <| .nil _ _) (by kernel_rfl) (fun n13 a w hst => ?_)
      replace hst : St M w0 161 [(84, tb (decide (s19 < (t36.1.length : Int)))), (15, ti s19), (9, tsl rI t36.1), (10, ti t36.2), (5, ti t22.1), (6, tsl rSDiff t22.2)] [] a w := (hst.pick [3, 4, 5, 6, 7, 8])
      refine hK74 _ _ ?_
      try clear hK74 K74
      refine wp_test 0 hst rfl (fun b120 => ?_) (fun b120 => ?_)
      · replace h := ite_t b120 h
        refine wp_skip ?_
        refine hK73 _ _ ?_
        try clear hK73 K73
        refine wp_seq_k (fun K75 hK75 => ?_)
        refine wp_block ?_
        refine wp_seq_k (fun K76 hK76 => ?_)
        refine wp_reg mixed [] hst (fun _ => .p rfl (op_assign .k) <| .nil _ _) (by kernel_rfl) (fun n15 a w hst => ?_)
        replace hst : St M w0 161 [(16, tv (.slice none 0 0)), (15, ti s19), (9, tsl rI t36.1), (10, ti t36.2), (5, ti t22.1), (6, tsl rSDiff t22.2)] [own rSDiff 72 ([] : List SDiff) (.slice none 0 0)] a w := ((hst.pick [0, 2, 3, 4, 5, 6]).nil (rSDiff) 72)
        refine hK76 _ _ ?_
        try clear hK76 K76
        refine wp_seq_k (fun K78 hK78 => ?_)
        refine wp_seq_k (fun K79 hK79 => ?_)
        refine wp_reg mixed [] hst (fun _ => .p rfl (op_assign .k) <| .nil _ _) (by kernel_rfl) (fun n16 a w hst => ?_)
        replace hst : St M w0 161 [(17, ti (0:Int)), (16, tv (.slice none 0 0)), (15, ti s19), (9, tsl rI t36.1), (10, ti t36.2), (5, ti t22.1), (6, tsl rSDiff t22.2)] [own rSDiff 72 ([] : List SDiff) (.slice none 0 0)] a w := (hst.pick [0, 1, 2, 3, 4, 5, 6])
        refine hK79 _ _ ?_
        try clear hK79 K79
        obtain ⟨e82, he82, h⟩ := bind_some h
        have hJp96 : ∀ (p96 : List SDiff) (v97 : Value) a w, (.inl p96) = e82 → St M w0 161 [(16, tv v97), (15, ti s19), (9, tsl rI t36.1), (10, ti t36.2), (5, ti t22.1), (6, tsl rSDiff t22.2)] [own rSDiff 72 p96 v97] a w → K78 a w := by
          intro p96 v97 a w he hst
          subst he
          simp only at h
          refine hK78 _ _ ?_
          try clear hK78 K78
          refine wp_seq_k (fun K99 hK99 => ?_)
          refine wp_seq_k (fun K100 hK100 => ?_)
          refine wp_reg mixed [] hst (fun _ => .p rfl (op_move (.t 3 rfl)) <| .p rfl (op_neq (.t 0 rfl) .k) <| .nil _ _) (by kernel_rfl) (fun n23 a w hst => ?_)
          replace hst : St M w0 161 [(139, tb (t36.2 != (0:Int))), (16, tv v97), (15, ti s19), (9, tsl rI t36.1), (10, ti t36.2), (5, ti t22.1), (6, tsl rSDiff t22.2)] [own rSDiff 72 p96 v97] a w := (hst.pick [1, 2, 3, 4, 5, 6, 7])
          refine hK100 _ _ ?_
          try clear hK100 K100
          refine wp_test 0 hst rfl (fun b105 => ?_) (fun b105 => ?_)
          · replace h := ite_t b105 h
            refine wp_exit ?_
            exact hJp69 _ _ _ (ho _ (Option.some.inj h).symm) ((hst.pick []).selA [] rfl)
          · replace h := ite_f b105 h
            refine wp_skip ?_
            refine hK99 _ _ ?_
            try clear hK99 K99
            refine wp_seq_k (fun K101 hK101 => ?_)
            replace hst : St M w0 161 [(16, tsl rSDiff p96), (139, tb (t36.2 != (0:Int))), (15, ti s19), (9, tsl rI t36.1), (10, ti t36.2), (5, ti t22.1), (6, tsl rSDiff t22.2)] [] a w := ((hst.shareO 1 rfl).pick [0, 1, 3, 4, 5, 6, 7])
            obtain ⟨t143, ht143, h⟩ := bind_some h
            refine wp_reg mixed [] hst (fun _ => .p rfl (op_move (.t 5 rfl)) <| .p rfl (op_move (.t 1 rfl)) <| .p rfl (op_callF call31 (Close_ok ht143) (.cons (.of (.t 1 rfl)) <| .cons (.of (.t 0 rfl)) <| .nil)) <| .p rfl (op_move (.t 0 rfl)) <| .p rfl (op_extract (.t 0 rfl) rfl) <| .p rfl (op_extract (.t 1 rfl) rfl) <| .p rfl (op_assign (.t 1 rfl)) <| .p rfl (op_assign (.t 1 rfl)) <| .nil _ _) (by kernel_rfl) (fun n24 a w hst => ?_)
            replace hst : St M w0 161 [(19, ti t143.2), (15, ti s19), (9, tsl rI t36.1), (10, ti t36.2), (5, ti t22.1), (6, tsl rSDiff t22.2)] [] a w := (hst.pick [7, 10, 11, 12, 13, 14])
            refine hK101 _ _ ?_
            try clear hK101 K101
            refine wp_seq_k (fun K102 hK102 => ?_)
            refine wp_reg mixed [] hst (fun _ => .p rfl (op_move (.t 1 rfl)) <| .p rfl (op_lss (.t 0 rfl) .k) <| .p rfl (op_move (.t 0 rfl)) <| .g rfl rfl (.b 0 rfl) (fun _ => op_move (.t 3 rfl)) <| .g rfl rfl (.b 1 rfl) (fun hc => op_neq (.cond (.t 0 rfl) hc) .k) <| .p rfl (op_and (.t 2 rfl) (fun hp => (.cond (.t 0 rfl) (beqT hp)))) <| .p rfl (op_move (.t 0 rfl)) <| .g rfl rfl (.b 0 rfl) (fun _ => op_move (.t 8 rfl)) <| .g rfl rfl (.b 1 rfl) (fun hc => op_geq (.cond (.t 0 rfl) hc) .k) <| .g rfl rfl (.b 2 rfl) (fun hc => op_move (.cond (.t 0 rfl) hc)) <| .g rfl rfl (.c 0 rfl) (fun _ => op_move (.t 10 rfl)) <| .g rfl rfl (.c 1 rfl) (fun hc => op_neq (.cond (.t 0 rfl) hc) .k) <| .g rfl rfl (.b 5 rfl) (fun hc => op_and (.cond (.t 2 rfl) hc) (fun hp => (.cond (.t 0 rfl) (band_mk hc (beqT hp))))) <| .p rfl (op_or (.t 6 rfl) (fun hp => (.cond (.t 0 rfl) (beqF hp)))) <| .nil _ _) (by kernel_rfl) (fun n25 a w hst => ?_)
            replace hst : St M w0 161 [(159, tb (((decide (s19 < (0:Int))) && (t143.2 != (14:Int))) || ((decide (s19 ≥ (0:Int))) && (t143.2 != (0:Int))))), (15, ti s19), (9, tsl rI t36.1), (10, ti t36.2), (5, ti t22.1), (6, tsl rSDiff t22.2)] [] a w := (hst.pick [13, 15, 16, 17, 18, 19])
            refine hK102 _ _ ?_
            try clear hK102 K102
            refine wp_test 0 hst rfl (fun b104 => ?_) (fun b104 => ?_)
            · replace h := ite_t b104 h
              refine wp_seq_k (fun K103 hK103 => ?_)
              refine wp_reg mixed [] hst (fun _ => .p rfl (op_assign .k) <| .nil _ _) (by kernel_rfl) (fun n26 a w hst => ?_)
              replace hst : St M w0 161 [(4, tb false)] [] a w := (hst.pick [0])
              refine hK103 _ _ ?_
              try clear hK103 K103
              refine wp_ret ?_
              exact hJp70 _ _ _ (ho _ (Option.some.inj h).symm) (hst.pick [0])
            · replace h := ite_f b104 h
              refine wp_skip ?_
              refine hK75 _ _ ?_
              try clear hK75 K75
              refine wp_reg mixed [] hst (fun _ => .p rfl (op_move (.t 1 rfl)) <| .p rfl (op_add (.t 0 rfl) .k) <| .p rfl (op_assign (.t 0 rfl)) <| .nil _ _) (by kernel_rfl) (fun n14 a w hst => ?_)
              replace hst : St M w0 161 [(15, ti (IntKind.i64.wrap (s19 + (1:Int)))), (9, tsl rI t36.1), (10, ti t36.2), (5, ti t22.1), (6, tsl rSDiff t22.2)] [] a w := (hst.pick [2, 4, 5, 6, 7])
              exact hK72 _ _ _ (Option.some.inj h).symm (hst.pick [0, 1, 2, 3, 4])
        have hJp98 : ∀ (p98 : Bool) a w, (.inr p98) = e82 → St M w0 161 [(4, tb p98)] [] a w → Ret Try.prog Try.f10 M0 [] w0 (fun _ => []) (fun _ => tb r) .ret a w := by
          intro p98 a w he hst
          subst he
          simp only at h
          exact hJp70 _ _ _ (ho _ (Option.some.inj h).symm) (hst.pick [0])
        refine wp_block ?_
        refine wp_loopK _ (fun (s80 : Int × List SDiff) a w => ∃ v81 : Value, St M w0 161 [(17, ti s80.1), (16, tv v81), (15, ti s19), (9, tsl rI t36.1), (10, ti t36.2), (5, ti t22.1), (6, tsl rSDiff t22.2)] [own rSDiff 72 s80.2 v81] a w) _ _ he82 ⟨(.slice none 0 0), hst.pick [0, 1, 2, 3, 4, 5, 6]⟩ ?_
        clear h
        intro s80 o a w K106 hI h ho hK106
        obtain ⟨v81, hst⟩ := hI
        refine wp_seq_k (fun K107 hK107 => ?_)
        refine wp_seq_k (fun K108 hK108 => ?_)
        refine wp_reg mixed [] hst (fun _ => .p rfl (op_move (.t 0 rfl)) <| .p rfl (op_move (.t 4 rfl)) <| .p rfl (op_len Try.underlying22 (.t 0 rfl)) <| .p rfl (op_lss (.t 2 rfl) (.t 0 rfl)) <| .nil _ _) (by kernel_rfl) (fun n17 a w hst => ?_)
        replace hst : St M w0 161 [(90, tb (decide (s80.1 < (t36.1.length : Int)))), (17, ti s80.1), (16, tv v81), (15, ti s19), (9, tsl rI t36.1), (10, ti t36.2), (5, ti t22.1), (6, tsl rSDiff t22.2)] [own rSDiff 72 s80.2 v81] a w := (hst.pick [3, 4, 5, 6, 7, 8, 9, 10])
        refine hK108 _ _ ?_
        try clear hK108 K108
        refine wp_test 0 hst rfl (fun b119 => ?_) (fun b119 => ?_)
        · replace h := ite_t b119 h
          refine wp_skip ?_
          refine hK107 _ _ ?_
          try clear hK107 K107
          refine wp_seq_k (fun K109 hK109 => ?_)
          refine wp_block ?_
          refine wp_seq_k (fun K110 hK110 => ?_)
          refine wp_seq_k (fun K111 hK111 => ?_)
          obtain ⟨t95, ht95, h⟩ := bind_some h
          obtain ⟨t101, ht101, h⟩ := bind_some h
          refine wp_reg mixed [] hst (fun _ => .p rfl (op_move (.t 4 rfl)) <| .p rfl (op_move (.t 2 rfl)) <| .p rfl (op_index Try.underlying22 tok3 (.t 1 rfl) (.t 0 rfl) ht95) <| .p rfl (op_load tok3 (.t 0 rfl)) <| .p rfl (op_lss (.t 0 rfl) .k) <| .p rfl (op_move (.t 0 rfl)) <| .g rfl rfl (.b 0 rfl) (fun _ => op_move (.t 10 rfl)) <| .g rfl rfl (.b 1 rfl) (fun _ => op_move (.t 8 rfl)) <| .g rfl rfl (.b 2 rfl) (fun hc => op_index Try.underlying22 tok3 (.cond (.t 1 rfl) hc) (.cond (.t 0 rfl) hc) (opt_t ht101 hc)) <| .g rfl rfl (.b 3 rfl) (fun hc => op_load tok3 (.cond (.t 0 rfl) hc)) <| .g rfl rfl (.b 4 rfl) (fun _ => op_move (.t 17 rfl)) <| .g rfl rfl (.b 5 rfl) (fun hc => op_len Try.underlying48 (.cond (.t 0 rfl) hc)) <| .g rfl rfl (.b 6 rfl) (fun hc => op_geq (.cond (.t 2 rfl) hc) (.cond (.t 0 rfl) hc)) <| .p rfl (op_or (.t 7 rfl) (fun hp => (.cond (.t 0 rfl) (beqF hp)))) <| .nil _ _) (by kernel_rfl) (fun n19 a w hst => ?_)
          replace hst : St M w0 161 [(106, tb ((decide (t95 < (0:Int))) || (decide (t101 ≥ (t22.2.length : Int))))), (17, ti s80.1), (16, tv v81), (15, ti s19), (9, tsl rI t36.1), (10, ti t36.2), (5, ti t22.1), (6, tsl rSDiff t22.2)] [own rSDiff 72 s80.2 v81] a w := (hst.pick [13, 15, 16, 17, 18, 19, 20, 21])
          refine hK111 _ _ ?_
          try clear hK111 K111
          refine wp_test 0 hst rfl (fun b118 => ?_) (fun b118 => ?_)
          · replace h := ite_t b118 h
            refine wp_seq_k (fun K112 hK112 => ?_)
            refine wp_reg mixed [] hst (fun _ => .p rfl (op_assign .k) <| .nil _ _) (by kernel_rfl) (fun n20 a w hst => ?_)
            replace hst : St M w0 161 [(4, tb false), (16, tv v81)] [own rSDiff 72 s80.2 v81] a w := (hst.pick [0, 3])
            refine hK112 _ _ ?_
            try clear hK112 K112
            refine wp_ret ?_
            exact hJp98 _ _ _ (ho _ (Option.some.inj h).symm) ((hst.pick [0]).selA [] rfl)
          · replace h := ite_f b118 h
            refine wp_skip ?_
            refine hK110 _ _ ?_
            try clear hK110 K110
            refine wp_seq_k (fun K113 hK113 => ?_)
            refine wp_reg mixed [] hst (fun _ => .p rfl (op_move (.t 1 rfl)) <| .p rfl (op_move (.t 4 rfl)) <| .p rfl (op_neq (.t 1 rfl) (.t 0 rfl)) <| .nil _ _) (by kernel_rfl) (fun n21 a w hst => ?_)
            replace hst : St M w0 161 [(109, tb (s80.1 != s19)), (17, ti s80.1), (16, tv v81), (15, ti s19), (9, tsl rI t36.1), (10, ti t36.2), (5, ti t22.1), (6, tsl rSDiff t22.2)] [own rSDiff 72 s80.2 v81] a w := (hst.pick [2, 4, 5, 6, 7, 8, 9, 10])
            refine hK113 _ _ ?_
            try clear hK113 K113
            obtain ⟨p114, hp114, h⟩ := bind_some h
            have hJp114 : ∀ (v116 : Value) a w, St M w0 161 [(16, tv v116), (17, ti s80.1), (15, ti s19), (9, tsl rI t36.1), (10, ti t36.2), (5, ti t22.1), (6, tsl rSDiff t22.2)] [own rSDiff 72 p114 v116] a w → K109 a w := by
              intro v116 a w hst
              refine hK109 _ _ ?_
              try clear hK109 K109
              refine wp_reg mixed [] hst (fun _ => .p rfl (op_move (.t 1 rfl)) <| .p rfl (op_add (.t 0 rfl) .k) <| .p rfl (op_assign (.t 0 rfl)) <| .nil _ _) (by kernel_rfl) (fun n18 a w hst => ?_)
              replace hst : St M w0 161 [(17, ti (IntKind.i64.wrap (s80.1 + (1:Int)))), (16, tv v116), (15, ti s19), (9, tsl rI t36.1), (10, ti t36.2), (5, ti t22.1), (6, tsl rSDiff t22.2)] [own rSDiff 72 p114 v116] a w := (hst.pick [2, 3, 4, 5, 6, 7, 8])
              exact hK106 _ _ _ (Option.some.inj h).symm ⟨v116, hst.pick [0, 1, 2, 3, 4, 5, 6]⟩
            replace h := hp114
            clear hp114
            refine wp_test 0 hst rfl (fun b117 => ?_) (fun b117 => ?_)
            · replace h := ite_t b117 h
              obtain ⟨t114, ht114, h⟩ := bind_some h
              obtain ⟨t116, ht116, h⟩ := bind_some h
              obtain ⟨t122, ht122, h⟩ := bind_some h
              obtain ⟨t124, ht124, h⟩ := bind_some h
              obtain ⟨t130, ht130, h⟩ := bind_some h
              obtain ⟨t132, ht132, h⟩ := bind_some h
              obtain ⟨u137, hu137, h⟩ := bind_some h
              refine wp_reg mixed [v1 27 (fun v0 => own rSDiff 72 (s80.2 ++ [(SDiff.mk (t116).A (t124).B (t132).N)]) v0)] hst (fun _ => .p rfl (op_move (.t 2 rfl)) <| .p rfl (op_move (.t 8 rfl)) <| .p rfl (op_move (.t 6 rfl)) <| .p rfl (op_move (.t 4 rfl)) <| .p rfl (op_index Try.underlying22 tok3 (.t 1 rfl) (.t 0 rfl) ht114) <| .p rfl (op_load tok3 (.t 0 rfl)) <| .p rfl (op_index Try.underlying48 tok71 (.t 4 rfl) (.t 0 rfl) ht116) <| .p rfl (op_field fld71_0 (.t 0 rfl)) <| .p rfl (op_loadT (u := (t116).A) tok3 (.t 0 rfl) rfl) <| .p rfl (op_move (.t 16 rfl)) <| .p rfl (op_move (.t 14 rfl)) <| .p rfl (op_move (.t 12 rfl)) <| .p rfl (op_index Try.underlying22 tok3 (.t 1 rfl) (.t 0 rfl) ht122) <| .p rfl (op_load tok3 (.t 0 rfl)) <| .p rfl (op_index Try.underlying48 tok71 (.t 4 rfl) (.t 0 rfl) ht124) <| .p rfl (op_field fld71_1 (.t 0 rfl)) <| .p rfl (op_loadT (u := (t124).B) tok3 (.t 0 rfl) rfl) <| .p rfl (op_move (.t 24 rfl)) <| .p rfl (op_move (.t 22 rfl)) <| .p rfl (op_move (.t 20 rfl)) <| .p rfl (op_index Try.underlying22 tok3 (.t 1 rfl) (.t 0 rfl) ht130) <| .p rfl (op_load tok3 (.t 0 rfl)) <| .p rfl (op_index Try.underlying48 tok71 (.t 4 rfl) (.t 0 rfl) ht132) <| .p rfl (op_field fld71_2 (.t 0 rfl)) <| .p rfl (op_loadT (u := (t132).N) tok3 (.t 0 rfl) rfl) <| .p (T := rSDiff.ty (SDiff.mk (t116).A (t124).B (t132).N)) rfl (op_build Try.underlying72 pl72 zv72 zc72 (.cons (R := rI) (u := (t116).A) rfl (.t 16 rfl) (Nat.le_of_ble_eq_true rfl) <| .cons (R := rI) (u := (t124).B) rfl (.t 8 rfl) (Nat.le_of_ble_eq_true rfl) <| .cons (R := rI) (u := (t132).N) rfl (.t 0 rfl) (Nat.le_of_ble_eq_true rfl) <| .nil _)) <| .p rfl (op_buildSl (R := rSDiff) (us := [(SDiff.mk (t116).A (t124).B (t132).N)]) Try.underlying55 tok72 (.cons (.t 0 rfl) <| .nil _) rfl (Nat.le_of_ble_eq_true rfl)) <| .e [] [0] [1] rfl rfl rfl rfl (op_append (R := rSDiff) Try.underlying55 tok72 (Nat.le_of_ble_eq_true rfl) (.t 26 rfl) (.t 0 rfl) hu137) <| .ud (f := fun v => tv v) 27 rfl [] rfl rfl (op_assign (.t 0 rfl)) <| .nil _ _) (by kernel_rfl) (fun n22 a w hst => ?_)
              replace hst : St M w0 161 [(137, tv (n22 27)), (16, tv (n22 27)), (17, ti s80.1), (15, ti s19), (9, tsl rI t36.1), (10, ti t36.2), (5, ti t22.1), (6, tsl rSDiff t22.2)] [own rSDiff 72 (s80.2 ++ [(SDiff.mk (t116).A (t124).B (t132).N)]) (n22 27)] a w := (hst.pick [27, 28, 30, 31, 32, 33, 34, 35])
              obtain rfl := Option.some.inj h
              exact hJp114 (n22 27) _ _ (hst.pick [1, 2, 3, 4, 5, 6, 7])
            · replace h := ite_f b117 h
              refine wp_skip ?_
              obtain rfl := Option.some.inj h
              exact hJp114 v81 _ _ (hst.pick [2, 1, 3, 4, 5, 6, 7])
        · replace h := ite_f b119 h
          refine wp_exit ?_
          exact hJp96 _ v81 _ _ (ho _ (Option.some.inj h).symm) (hst.pick [2, 3, 4, 5, 6, 7])
      · replace h := ite_f b120 h
        refine wp_exit ?_
        exact hJp69 _ _ _ (ho _ (Option.some.inj h).symm) (hst.pick [])


end Go.Proofs.Ytjniiejgccdhiaa
