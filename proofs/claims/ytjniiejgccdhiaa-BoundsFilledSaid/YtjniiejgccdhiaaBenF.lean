/- Go functions as Lean functions, and the proofs that they compute them, written by a program. No condition. -/
import Derived.Test.YtjniiejgccdhiaaBenE
namespace Go.Proofs.Ytjniiejgccdhiaa
open Go.Sim

/- diorama/bounds.Fill -/
noncomputable def fFill (n_ : Int) (l_ : (List SDiff)) (picks_ : (List Int)) : Option ((List Int) × Int) := (fClose n_ l_).bind fun t20 => (if (t20.2 != (0:Int)) = true then (some (([] : List Int), t20.2)) else (tailrec (fun (s10 : Int × List Int) => ((if (decide (s10.1 < n_)) = true then (fRange t20.1 s10.2).bind fun t33 => (if (((t33.2.2 != (0:Int)) || (t33.1 == (-1099511627776:Int))) || (t33.2.1 == (1099511627776:Int))) = true then (some (.inr (.inr (([] : List Int), (5:Int))))) else ((if (decide (s10.1 < (picks_.length : Int))) = true then (idx picks_ s10.1).bind fun t57 => (some t57) else (some (0:Int)))).bind fun (p45 : Int) => (nz (IntKind.i64.wrap ((IntKind.i64.wrap (t33.2.1 - t33.1)) + (1:Int)))).bind fun _ => (nz (IntKind.i64.wrap ((IntKind.i64.wrap (t33.2.1 - t33.1)) + (1:Int)))).bind fun _ => (rm (s10.2.length + [(IntKind.i64.wrap (t33.1 + (Int.tmod (IntKind.i64.wrap ((Int.tmod p45 (IntKind.i64.wrap ((IntKind.i64.wrap (t33.2.1 - t33.1)) + (1:Int)))) + (IntKind.i64.wrap ((IntKind.i64.wrap (t33.2.1 - t33.1)) + (1:Int))))) (IntKind.i64.wrap ((IntKind.i64.wrap (t33.2.1 - t33.1)) + (1:Int))))))].length)).bind fun _ => (some (.inl ((IntKind.i64.wrap (s10.1 + (1:Int))), (s10.2 ++ [(IntKind.i64.wrap (t33.1 + (Int.tmod (IntKind.i64.wrap ((Int.tmod p45 (IntKind.i64.wrap ((IntKind.i64.wrap (t33.2.1 - t33.1)) + (1:Int)))) + (IntKind.i64.wrap ((IntKind.i64.wrap (t33.2.1 - t33.1)) + (1:Int))))) (IntKind.i64.wrap ((IntKind.i64.wrap (t33.2.1 - t33.1)) + (1:Int))))))]))))) else (some (.inr (.inl s10.2)))) : Option ((Int × List Int) ⊕ ((List Int) ⊕ ((List Int) × Int))))) ((0:Int), ([] : List Int))).bind fun (e12 : (List Int) ⊕ ((List Int) × Int)) => (match e12 with | .inl p29 => (some (p29, (0:Int))) | .inr p31 => (some (p31.1, p31.2))))
set_option maxRecDepth 100000 in
set_option maxHeartbeats 4000000 in
theorem Fill_ok {n_ : Int} {l_ : (List SDiff)} {picks_ : (List Int)} {r : (List Int) × Int} (h : fFill n_ l_ picks_ = some r) : FnOk Try.prog 40 [ti n_, tsl rSDiff l_, tsl rI picks_] [] (fun _ => []) (fun _ => ttup [tsl rI r.1, ti r.2]) := by
  unfold fFill at h
  refine FnOk.enter Try.func40 rfl Try.ntmps40 (Nat.le_of_ble_eq_true rfl) (fun M0 M w0 a hpl hst => ?_)
  replace hst : St M w0 73 [(0, ti n_), (1, tsl rSDiff l_), (2, tsl rI picks_)] [] a w0 := hst
  refine wp_seq_k (fun K1 hK1 => ?_)
  refine wp_reg mixed [] hst (fun _ => .p rfl (op_assign (.nilsl (R := rI))) <| .p rfl (op_assign .k) <| .nil _ _) (by kernel_rfl) (fun n0 a w hst => ?_)
  replace hst : St M w0 73 [(0, ti n_), (1, tsl rSDiff l_), (2, tsl rI picks_)] [] a w := (hst.pick [2, 3, 4])
  refine hK1 _ _ ?_
  try clear hK1 K1
  refine wp_seq_k (fun K2 hK2 => ?_)
  obtain ⟨t20, ht20, h⟩ := bind_some h
  refine wp_reg mixed [] hst (fun _ => .p rfl (op_move (.t 0 rfl)) <| .p rfl (op_move (.t 2 rfl)) <| .p rfl (op_callF call31 (Close_ok ht20) (.cons (.of (.t 1 rfl)) <| .cons (.of (.t 0 rfl)) <| .nil)) <| .p rfl (op_move (.t 0 rfl)) <| .p rfl (op_extract (.t 0 rfl) rfl) <| .p rfl (op_extract (.t 1 rfl) rfl) <| .p rfl (op_assign (.t 1 rfl)) <| .p rfl (op_assign (.t 1 rfl)) <| .nil _ _) (by kernel_rfl) (fun n1 a w hst => ?_)
  replace hst : St M w0 73 [(8, tsl (rSl rI) t20.1), (9, ti t20.2), (0, ti n_), (2, tsl rI picks_)] [] a w := (hst.pick [6, 7, 8, 10])
  refine hK2 _ _ ?_
  try clear hK2 K2
  refine wp_seq_k (fun K3 hK3 => ?_)
  refine wp_seq_k (fun K4 hK4 => ?_)
  refine wp_reg mixed [] hst (fun _ => .p rfl (op_move (.t 1 rfl)) <| .p rfl (op_neq (.t 0 rfl) .k) <| .nil _ _) (by kernel_rfl) (fun n2 a w hst => ?_)
  replace hst : St M w0 73 [(24, tb (t20.2 != (0:Int))), (8, tsl (rSl rI) t20.1), (9, ti t20.2), (0, ti n_), (2, tsl rI picks_)] [] a w := (hst.pick [1, 2, 3, 4, 5])
  refine hK4 _ _ ?_
  try clear hK4 K4
  refine wp_test 0 hst rfl (fun b50 => ?_) (fun b50 => ?_)
  · replace h := ite_t b50 h
    refine wp_seq_k (fun K5 hK5 => ?_)
    refine wp_reg mixed [] hst (fun _ => .p rfl (op_move (.t 2 rfl)) <| .p rfl (op_assign (.nilsl (R := rI))) <| .p rfl (op_assign (.t 1 rfl)) <| .nil _ _) (by kernel_rfl) (fun n3 a w hst => ?_)
    replace hst : St M w0 73 [(6, tsl rI ([] : List Int)), (7, ti t20.2)] [] a w := (hst.pick [1, 2])
    refine hK5 _ _ ?_
    try clear hK5 K5
    refine wp_ret ?_
    obtain rfl := Option.some.inj h
    exact ret_st undef [] hpl hst rfl (.tmp (.t 0 rfl) (.tmp (.t 1 rfl) .nil)) rfl rfl rfl
  · replace h := ite_f b50 h
    refine wp_skip ?_
    refine hK3 _ _ ?_
    try clear hK3 K3
    refine wp_seq_k (fun K6 hK6 => ?_)
    refine wp_reg mixed [] hst (fun _ => .p rfl (op_assign .k) <| .nil _ _) (by kernel_rfl) (fun n4 a w hst => ?_)
    replace hst : St M w0 73 [(10, tv (.slice none 0 0)), (8, tsl (rSl rI) t20.1), (0, ti n_), (2, tsl rI picks_)] [own rI 3 ([] : List Int) (.slice none 0 0)] a w := ((hst.pick [0, 2, 4, 5]).nil (rI) 3)
    refine hK6 _ _ ?_
    try clear hK6 K6
    refine wp_seq_k (fun K8 hK8 => ?_)
    refine wp_seq_k (fun K9 hK9 => ?_)
    refine wp_reg mixed [] hst (fun _ => .p rfl (op_move (.t 2 rfl)) <| .p rfl (op_move .k) <| .nil _ _) (by kernel_rfl) (fun n5 a w hst => ?_)
    replace hst : St M w0 73 [(26, ti n_), (27, ti (0:Int)), (10, tv (.slice none 0 0)), (8, tsl (rSl rI) t20.1), (2, tsl rI picks_)] [own rI 3 ([] : List Int) (.slice none 0 0)] a w := (hst.pick [0, 1, 2, 3, 5])
    refine hK9 _ _ ?_
    try clear hK9 K9
    obtain ⟨e12, he12, h⟩ := bind_some h
    have hJp29 : ∀ (p29 : List Int) (v30 : Value) a w, (.inl p29) = e12 → St M w0 73 [(10, tv v30)] [own rI 3 p29 v30] a w → K8 a w := by
      intro p29 v30 a w he hst
      subst he
      simp only at h
      refine hK8 _ _ ?_
      try clear hK8 K8
      refine wp_seq_k (fun K32 hK32 => ?_)
      refine wp_reg mixed [] hst (fun _ => .p rfl (op_move (.t 0 rfl)) <| .p rfl (op_assign (.t 0 rfl)) <| .p rfl (op_assign .k) <| .nil _ _) (by kernel_rfl) (fun n16 a w hst => ?_)
      replace hst : St M w0 73 [(72, tv v30), (6, tv v30), (7, ti (0:Int)), (10, tv v30)] [own rI 3 p29 v30] a w := (hst.pick [0, 1, 2, 3])
      refine hK32 _ _ ?_
      try clear hK32 K32
      refine wp_ret ?_
      replace hst : St M w0 73 [(6, tsl rI p29), (7, ti (0:Int))] [] a w := ((hst.shareO 1 rfl).pick [0, 3])
      obtain rfl := Option.some.inj h
      exact ret_st undef [] hpl hst rfl (.tmp (.t 0 rfl) (.tmp (.t 1 rfl) .nil)) rfl rfl rfl
    have hJp31 : ∀ (p31 : (List Int) × Int) a w, (.inr p31) = e12 → St M w0 73 [(6, tsl rI p31.1), (7, ti p31.2)] [] a w → Ret Try.prog Try.f40 M0 [] w0 (fun _ => []) (fun _ => ttup [tsl rI r.1, ti r.2]) .ret a w := by
      intro p31 a w he hst
      subst he
      simp only at h
      obtain rfl := Option.some.inj h
      exact ret_st undef [] hpl hst rfl (.tmp (.t 0 rfl) (.tmp (.t 1 rfl) .nil)) rfl rfl rfl
    refine wp_block ?_
    refine wp_loopK _ (fun (s10 : Int × List Int) a w => ∃ v11 : Value, St M w0 73 [(26, ti n_), (27, ti s10.1), (10, tv v11), (8, tsl (rSl rI) t20.1), (2, tsl rI picks_)] [own rI 3 s10.2 v11] a w) _ _ he12 ⟨(.slice none 0 0), hst.pick [0, 1, 2, 3, 4]⟩ ?_
    clear h
    intro s10 o a w K33 hI h ho hK33
    obtain ⟨v11, hst⟩ := hI
    refine wp_seq_k (fun K34 hK34 => ?_)
    refine wp_reg mixed [] hst (fun _ => .p rfl (op_lss (.t 1 rfl) (.t 0 rfl)) <| .nil _ _) (by kernel_rfl) (fun n6 a w hst => ?_)
    replace hst : St M w0 73 [(28, tb (decide (s10.1 < n_))), (26, ti n_), (27, ti s10.1), (10, tv v11), (8, tsl (rSl rI) t20.1), (2, tsl rI picks_)] [own rI 3 s10.2 v11] a w := (hst.pick [0, 1, 2, 3, 4, 5])
    refine hK34 _ _ ?_
    try clear hK34 K34
    refine wp_seq_k (fun K35 hK35 => ?_)
    refine wp_test 0 hst rfl (fun b49 => ?_) (fun b49 => ?_)
    · replace h := ite_t b49 h
      refine wp_skip ?_
      refine hK35 _ _ ?_
      try clear hK35 K35
      refine wp_seq_k (fun K36 hK36 => ?_)
      refine wp_block ?_
      refine wp_seq_k (fun K37 hK37 => ?_)
      refine wp_reg mixed [] hst (fun _ => .p rfl (op_move (.t 2 rfl)) <| .p rfl (op_assign (.t 0 rfl)) <| .nil _ _) (by kernel_rfl) (fun n7 a w hst => ?_)
      replace hst : St M w0 73 [(11, ti s10.1), (26, ti n_), (27, ti s10.1), (10, tv v11), (8, tsl (rSl rI) t20.1), (2, tsl rI picks_)] [own rI 3 s10.2 v11] a w := (hst.pick [1, 3, 4, 5, 6, 7])
      refine hK37 _ _ ?_
      try clear hK37 K37
      refine wp_seq_k (fun K38 hK38 => ?_)
      obtain ⟨t33, ht33, h⟩ := bind_some h
      refine wp_reg mixed [] hst (fun _ => .p rfl (op_move (.t 4 rfl)) <| .p rfl (op_move (.t 4 rfl)) <| .u [0] rfl rfl (op_callFU [own rI 3 s10.2 v11] call38 (Range_ok ht33) (.cons (.of (.t 1 rfl)) <| .cons (.own (.t 0 rfl) (.head _)) <| .nil) (fun _ => (flat_tup (flat_cons flat_tv (flat_cons flat_tv (flat_cons flat_tv flat_nil))))) (fun _ => flatN0 (x := undef))) <| .p rfl (op_move (.t 0 rfl)) <| .p rfl (op_extract (.t 0 rfl) rfl) <| .p rfl (op_extract (.t 1 rfl) rfl) <| .p rfl (op_extract (.t 2 rfl) rfl) <| .p rfl (op_assign (.t 2 rfl)) <| .p rfl (op_assign (.t 2 rfl)) <| .p rfl (op_assign (.t 2 rfl)) <| .nil _ _) (by kernel_rfl) (fun n8 a w hst => ?_)
      replace hst : St M w0 73 [(32, tv v11), (12, ti t33.1), (13, ti t33.2.1), (14, ti t33.2.2), (11, ti s10.1), (26, ti n_), (27, ti s10.1), (10, tv v11), (8, tsl (rSl rI) t20.1), (2, tsl rI picks_)] [own rI 3 s10.2 v11] a w := (hst.pick [1, 7, 8, 9, 10, 11, 12, 13, 14, 15])
      refine hK38 _ _ ?_
      try clear hK38 K38
      refine wp_seq_k (fun K39 hK39 => ?_)
      refine wp_seq_k (fun K40 hK40 => ?_)
      refine wp_reg mixed [] hst (fun _ => .p rfl (op_move (.t 3 rfl)) <| .p rfl (op_neq (.t 0 rfl) .k) <| .p rfl (op_move (.t 0 rfl)) <| .g rfl rfl (.b 0 rfl) (fun _ => op_move (.t 4 rfl)) <| .g rfl rfl (.b 1 rfl) (fun hc => op_eql (.cond (.t 0 rfl) hc) .k) <| .p rfl (op_or (.t 2 rfl) (fun hp => (.cond (.t 0 rfl) (beqF hp)))) <| .p rfl (op_move (.t 0 rfl)) <| .g rfl rfl (.b 0 rfl) (fun _ => op_move (.t 9 rfl)) <| .g rfl rfl (.b 1 rfl) (fun hc => op_eql (.cond (.t 0 rfl) hc) .k) <| .p rfl (op_or (.t 2 rfl) (fun hp => (.cond (.t 0 rfl) (beqF hp)))) <| .nil _ _) (by kernel_rfl) (fun n9 a w hst => ?_)
      replace hst : St M w0 73 [(46, tb (((t33.2.2 != (0:Int)) || (t33.1 == (-1099511627776:Int))) || (t33.2.1 == (1099511627776:Int)))), (32, tv v11), (12, ti t33.1), (13, ti t33.2.1), (11, ti s10.1), (26, ti n_), (27, ti s10.1), (10, tv v11), (8, tsl (rSl rI) t20.1), (2, tsl rI picks_)] [own rI 3 s10.2 v11] a w := (hst.pick [9, 10, 11, 12, 14, 15, 16, 17, 18, 19])
      refine hK40 _ _ ?_
      try clear hK40 K40
      refine wp_test 0 hst rfl (fun b48 => ?_) (fun b48 => ?_)
      · replace h := ite_t b48 h
        refine wp_seq_k (fun K41 hK41 => ?_)
        refine wp_reg mixed [] hst (fun _ => .p rfl (op_assign (.nilsl (R := rI))) <| .p rfl (op_assign .k) <| .nil _ _) (by kernel_rfl) (fun n10 a w hst => ?_)
        replace hst : St M w0 73 [(6, tsl rI ([] : List Int)), (7, ti (5:Int)), (32, tv v11), (10, tv v11)] [own rI 3 s10.2 v11] a w := (hst.pick [0, 1, 3, 9])
        refine hK41 _ _ ?_
        try clear hK41 K41
        refine wp_ret ?_
        exact hJp31 _ _ _ (ho _ (Option.some.inj h).symm) ((hst.pick [0, 1]).selA [] rfl)
      · replace h := ite_f b48 h
        refine wp_skip ?_
        refine hK39 _ _ ?_
        try clear hK39 K39
        refine wp_seq_k (fun K42 hK42 => ?_)
        refine wp_reg mixed [] hst (fun _ => .p rfl (op_move (.t 3 rfl)) <| .p rfl (op_move (.t 3 rfl)) <| .p rfl (op_sub (.t 1 rfl) (.t 0 rfl)) <| .p rfl (op_add (.t 0 rfl) .k) <| .p rfl (op_assign .k) <| .p rfl (op_assign (.t 1 rfl)) <| .nil _ _) (by kernel_rfl) (fun n11 a w hst => ?_)
        replace hst : St M w0 73 [(15, ti (0:Int)), (16, ti (IntKind.i64.wrap ((IntKind.i64.wrap (t33.2.1 - t33.1)) + (1:Int)))), (32, tv v11), (12, ti t33.1), (11, ti s10.1), (26, ti n_), (27, ti s10.1), (10, tv v11), (8, tsl (rSl rI) t20.1), (2, tsl rI picks_)] [own rI 3 s10.2 v11] a w := (hst.pick [4, 5, 7, 8, 10, 11, 12, 13, 14, 15])
        refine hK42 _ _ ?_
        try clear hK42 K42
        refine wp_seq_k (fun K43 hK43 => ?_)
        refine wp_seq_k (fun K44 hK44 => ?_)
        refine wp_reg mixed [] hst (fun _ => .p rfl (op_move (.t 4 rfl)) <| .p rfl (op_move (.t 10 rfl)) <| .p rfl (op_len Try.underlying22 (.t 0 rfl)) <| .p rfl (op_lss (.t 2 rfl) (.t 0 rfl)) <| .nil _ _) (by kernel_rfl) (fun n12 a w hst => ?_)
        replace hst : St M w0 73 [(54, tb (decide (s10.1 < (picks_.length : Int)))), (15, ti (0:Int)), (16, ti (IntKind.i64.wrap ((IntKind.i64.wrap (t33.2.1 - t33.1)) + (1:Int)))), (32, tv v11), (12, ti t33.1), (11, ti s10.1), (26, ti n_), (27, ti s10.1), (10, tv v11), (8, tsl (rSl rI) t20.1), (2, tsl rI picks_)] [own rI 3 s10.2 v11] a w := (hst.pick [3, 4, 5, 6, 7, 8, 9, 10, 11, 12, 13])
        refine hK44 _ _ ?_
        try clear hK44 K44
        obtain ⟨p45, hp45, h⟩ := bind_some h
        have hJp45 : ∀ a w, St M w0 73 [(15, ti p45), (16, ti (IntKind.i64.wrap ((IntKind.i64.wrap (t33.2.1 - t33.1)) + (1:Int)))), (12, ti t33.1), (26, ti n_), (27, ti s10.1), (10, tv v11), (8, tsl (rSl rI) t20.1), (2, tsl rI picks_)] [own rI 3 s10.2 v11] a w → K43 a w := by
          intro a w hst
          refine hK43 _ _ ?_
          try clear hK43 K43
          obtain ⟨u63, hu63, h⟩ := bind_some h
          obtain ⟨u67, hu67, h⟩ := bind_some h
          obtain ⟨u70, hu70, h⟩ := bind_some h
          refine wp_reg mixed [v1 11 (fun v0 => own rI 3 (s10.2 ++ [(IntKind.i64.wrap (t33.1 + (Int.tmod (IntKind.i64.wrap ((Int.tmod p45 (IntKind.i64.wrap ((IntKind.i64.wrap (t33.2.1 - t33.1)) + (1:Int)))) + (IntKind.i64.wrap ((IntKind.i64.wrap (t33.2.1 - t33.1)) + (1:Int))))) (IntKind.i64.wrap ((IntKind.i64.wrap (t33.2.1 - t33.1)) + (1:Int))))))]) v0)] hst (fun _ => .p rfl (op_move (.t 5 rfl)) <| .p rfl (op_move (.t 3 rfl)) <| .p rfl (op_move (.t 2 rfl)) <| .p rfl (op_move (.t 4 rfl)) <| .p rfl (op_rem (.t 1 rfl) (.t 0 rfl) (nz_ne hu63)) <| .p rfl (op_move (.t 6 rfl)) <| .p rfl (op_add (.t 1 rfl) (.t 0 rfl)) <| .p rfl (op_move (.t 8 rfl)) <| .p rfl (op_rem (.t 1 rfl) (.t 0 rfl) (nz_ne hu67)) <| .p rfl (op_add (.t 7 rfl) (.t 0 rfl)) <| .p rfl (op_buildSl (R := rI) (us := [(IntKind.i64.wrap (t33.1 + (Int.tmod (IntKind.i64.wrap ((Int.tmod p45 (IntKind.i64.wrap ((IntKind.i64.wrap (t33.2.1 - t33.1)) + (1:Int)))) + (IntKind.i64.wrap ((IntKind.i64.wrap (t33.2.1 - t33.1)) + (1:Int))))) (IntKind.i64.wrap ((IntKind.i64.wrap (t33.2.1 - t33.1)) + (1:Int))))))]) Try.underlying22 tok3 (.cons (.t 0 rfl) <| .nil _) rfl (Nat.le_of_ble_eq_true rfl)) <| .e [] [0] [1] rfl rfl rfl rfl (op_append (R := rI) Try.underlying22 tok3 (Nat.le_of_ble_eq_true rfl) (.t 10 rfl) (.t 0 rfl) hu70) <| .ud (f := fun v => tv v) 11 rfl [] rfl rfl (op_assign (.t 0 rfl)) <| .nil _ _) (by kernel_rfl) (fun n14 a w hst => ?_)
          replace hst : St M w0 73 [(70, tv (n14 11)), (10, tv (n14 11)), (26, ti n_), (27, ti s10.1), (8, tsl (rSl rI) t20.1), (2, tsl rI picks_)] [own rI 3 (s10.2 ++ [(IntKind.i64.wrap (t33.1 + (Int.tmod (IntKind.i64.wrap ((Int.tmod p45 (IntKind.i64.wrap ((IntKind.i64.wrap (t33.2.1 - t33.1)) + (1:Int)))) + (IntKind.i64.wrap ((IntKind.i64.wrap (t33.2.1 - t33.1)) + (1:Int))))) (IntKind.i64.wrap ((IntKind.i64.wrap (t33.2.1 - t33.1)) + (1:Int))))))]) (n14 11)] a w := (hst.pick [11, 12, 16, 17, 18, 19])
          refine hK36 _ _ ?_
          try clear hK36 K36
          refine wp_reg mixed [] hst (fun _ => .p rfl (op_add (.t 3 rfl) .k) <| .p rfl (op_move (.t 0 rfl)) <| .nil _ _) (by kernel_rfl) (fun n15 a w hst => ?_)
          replace hst : St M w0 73 [(27, ti (IntKind.i64.wrap (s10.1 + (1:Int)))), (70, tv (n14 11)), (10, tv (n14 11)), (26, ti n_), (8, tsl (rSl rI) t20.1), (2, tsl rI picks_)] [own rI 3 (s10.2 ++ [(IntKind.i64.wrap (t33.1 + (Int.tmod (IntKind.i64.wrap ((Int.tmod p45 (IntKind.i64.wrap ((IntKind.i64.wrap (t33.2.1 - t33.1)) + (1:Int)))) + (IntKind.i64.wrap ((IntKind.i64.wrap (t33.2.1 - t33.1)) + (1:Int))))) (IntKind.i64.wrap ((IntKind.i64.wrap (t33.2.1 - t33.1)) + (1:Int))))))]) (n14 11)] a w := (hst.pick [1, 2, 3, 4, 5, 6])
          exact hK33 _ _ _ (Option.some.inj h).symm ⟨(n14 11), hst.pick [3, 0, 2, 4, 5]⟩
        replace h := hp45
        clear hp45
        refine wp_test 0 hst rfl (fun b47 => ?_) (fun b47 => ?_)
        · replace h := ite_t b47 h
          obtain ⟨t57, ht57, h⟩ := bind_some h
          refine wp_reg mixed [] hst (fun _ => .p rfl (op_move (.t 10 rfl)) <| .p rfl (op_move (.t 6 rfl)) <| .p rfl (op_index Try.underlying22 tok3 (.t 1 rfl) (.t 0 rfl) ht57) <| .p rfl (op_load tok3 (.t 0 rfl)) <| .p rfl (op_assign (.t 0 rfl)) <| .nil _ _) (by kernel_rfl) (fun n13 a w hst => ?_)
          replace hst : St M w0 73 [(15, ti t57), (16, ti (IntKind.i64.wrap ((IntKind.i64.wrap (t33.2.1 - t33.1)) + (1:Int)))), (32, tv v11), (12, ti t33.1), (26, ti n_), (27, ti s10.1), (10, tv v11), (8, tsl (rSl rI) t20.1), (2, tsl rI picks_)] [own rI 3 s10.2 v11] a w := (hst.pick [4, 6, 7, 8, 10, 11, 12, 13, 14])
          obtain rfl := Option.some.inj h
          exact hJp45 _ _ (hst.pick [0, 1, 3, 4, 5, 6, 7, 8])
        · replace h := ite_f b47 h
          refine wp_skip ?_
          obtain rfl := Option.some.inj h
          exact hJp45 _ _ (hst.pick [1, 2, 4, 6, 7, 8, 9, 10])
    · replace h := ite_f b49 h
      refine wp_exit ?_
      exact hJp29 _ v11 _ _ (ho _ (Option.some.inj h).symm) (hst.pick [3])

/- diorama/dioramaref14.Fill -/
noncomputable def fFillR (n_ : Int) (l_ : (List SDiff)) (picks_ : (List Int)) : Option ((List Int) × Int) := (fCloseR n_ l_).bind fun t20 => (if (t20.2 != (0:Int)) = true then (some (([] : List Int), t20.2)) else (tailrec (fun (s10 : Int × List Int) => ((if (decide (s10.1 < n_)) = true then (fRangeR t20.1 s10.2).bind fun t34 => (if (((t34.2.2 != (0:Int)) || (t34.1 == (-1099511627776:Int))) || (t34.2.1 == (1099511627776:Int))) = true then (some (.inr (.inr (([] : List Int), (5:Int))))) else ((if (decide (s10.1 < (picks_.length : Int))) = true then (idx picks_ s10.1).bind fun t54 => (some t54) else (some (0:Int)))).bind fun (p44 : Int) => (nz (IntKind.i64.wrap ((IntKind.i64.wrap (t34.2.1 - t34.1)) + (1:Int)))).bind fun _ => (nz (IntKind.i64.wrap ((IntKind.i64.wrap (t34.2.1 - t34.1)) + (1:Int)))).bind fun _ => (rm (s10.2.length + [(IntKind.i64.wrap (t34.1 + (Int.tmod (IntKind.i64.wrap ((Int.tmod p44 (IntKind.i64.wrap ((IntKind.i64.wrap (t34.2.1 - t34.1)) + (1:Int)))) + (IntKind.i64.wrap ((IntKind.i64.wrap (t34.2.1 - t34.1)) + (1:Int))))) (IntKind.i64.wrap ((IntKind.i64.wrap (t34.2.1 - t34.1)) + (1:Int))))))].length)).bind fun _ => (some (.inl ((IntKind.i64.wrap (s10.1 + (1:Int))), (s10.2 ++ [(IntKind.i64.wrap (t34.1 + (Int.tmod (IntKind.i64.wrap ((Int.tmod p44 (IntKind.i64.wrap ((IntKind.i64.wrap (t34.2.1 - t34.1)) + (1:Int)))) + (IntKind.i64.wrap ((IntKind.i64.wrap (t34.2.1 - t34.1)) + (1:Int))))) (IntKind.i64.wrap ((IntKind.i64.wrap (t34.2.1 - t34.1)) + (1:Int))))))]))))) else (some (.inr (.inl s10.2)))) : Option ((Int × List Int) ⊕ ((List Int) ⊕ ((List Int) × Int))))) ((0:Int), ([] : List Int))).bind fun (e12 : (List Int) ⊕ ((List Int) × Int)) => (match e12 with | .inl p29 => (some (p29, (0:Int))) | .inr p31 => (some (p31.1, p31.2))))
set_option maxRecDepth 100000 in
set_option maxHeartbeats 4000000 in
theorem FillR_ok {n_ : Int} {l_ : (List SDiff)} {picks_ : (List Int)} {r : (List Int) × Int} (h : fFillR n_ l_ picks_ = some r) : FnOk Try.prog 41 [ti n_, tsl rSDiff l_, tsl rI picks_] [] (fun _ => []) (fun _ => ttup [tsl rI r.1, ti r.2]) := by
  unfold fFillR at h
  refine FnOk.enter Try.func41 rfl Try.ntmps41 (Nat.le_of_ble_eq_true rfl) (fun M0 M w0 a hpl hst => ?_)
  replace hst : St M w0 73 [(0, ti n_), (1, tsl rSDiff l_), (2, tsl rI picks_)] [] a w0 := hst
  refine wp_seq_k (fun K1 hK1 => ?_)
  refine wp_reg mixed [] hst (fun _ => .p rfl (op_assign (.nilsl (R := rI))) <| .p rfl (op_assign .k) <| .nil _ _) (by kernel_rfl) (fun n0 a w hst => ?_)
  replace hst : St M w0 73 [(0, ti n_), (1, tsl rSDiff l_), (2, tsl rI picks_)] [] a w := (hst.pick [2, 3, 4])
  refine hK1 _ _ ?_
  try clear hK1 K1
  refine wp_seq_k (fun K2 hK2 => ?_)
  obtain ⟨t20, ht20, h⟩ := bind_some h
  refine wp_reg mixed [] hst (fun _ => .p rfl (op_move (.t 0 rfl)) <| .p rfl (op_move (.t 2 rfl)) <| .p rfl (op_callF call33 (CloseR_ok ht20) (.cons (.of (.t 1 rfl)) <| .cons (.of (.t 0 rfl)) <| .nil)) <| .p rfl (op_move (.t 0 rfl)) <| .p rfl (op_extract (.t 0 rfl) rfl) <| .p rfl (op_extract (.t 1 rfl) rfl) <| .p rfl (op_assign (.t 1 rfl)) <| .p rfl (op_assign (.t 1 rfl)) <| .nil _ _) (by kernel_rfl) (fun n1 a w hst => ?_)
  replace hst : St M w0 73 [(8, tsl (rSl rI) t20.1), (9, ti t20.2), (0, ti n_), (2, tsl rI picks_)] [] a w := (hst.pick [6, 7, 8, 10])
  refine hK2 _ _ ?_
  try clear hK2 K2
  refine wp_seq_k (fun K3 hK3 => ?_)
  refine wp_seq_k (fun K4 hK4 => ?_)
  refine wp_reg mixed [] hst (fun _ => .p rfl (op_move (.t 1 rfl)) <| .p rfl (op_neq (.t 0 rfl) .k) <| .nil _ _) (by kernel_rfl) (fun n2 a w hst => ?_)
  replace hst : St M w0 73 [(24, tb (t20.2 != (0:Int))), (8, tsl (rSl rI) t20.1), (9, ti t20.2), (0, ti n_), (2, tsl rI picks_)] [] a w := (hst.pick [1, 2, 3, 4, 5])
  refine hK4 _ _ ?_
  try clear hK4 K4
  refine wp_test 0 hst rfl (fun b50 => ?_) (fun b50 => ?_)
  · replace h := ite_t b50 h
    refine wp_seq_k (fun K5 hK5 => ?_)
    refine wp_reg mixed [] hst (fun _ => .p rfl (op_move (.t 2 rfl)) <| .p rfl (op_assign (.nilsl (R := rI))) <| .p rfl (op_assign (.t 1 rfl)) <| .nil _ _) (by kernel_rfl) (fun n3 a w hst => ?_)
    replace hst : St M w0 73 [(6, tsl rI ([] : List Int)), (7, ti t20.2)] [] a w := (hst.pick [1, 2])
    refine hK5 _ _ ?_
    try clear hK5 K5
    refine wp_ret ?_
    obtain rfl := Option.some.inj h
    exact ret_st undef [] hpl hst rfl (.tmp (.t 0 rfl) (.tmp (.t 1 rfl) .nil)) rfl rfl rfl
  · replace h := ite_f b50 h
    refine wp_skip ?_
    refine hK3 _ _ ?_
    try clear hK3 K3
    refine wp_seq_k (fun K6 hK6 => ?_)
    refine wp_reg mixed [] hst (fun _ => .p rfl (op_assign .k) <| .nil _ _) (by kernel_rfl) (fun n4 a w hst => ?_)
    replace hst : St M w0 73 [(10, tv (.slice none 0 0)), (8, tsl (rSl rI) t20.1), (0, ti n_), (2, tsl rI picks_)] [own rI 3 ([] : List Int) (.slice none 0 0)] a w := ((hst.pick [0, 2, 4, 5]).nil (rI) 3)
    refine hK6 _ _ ?_
    try clear hK6 K6
    refine wp_seq_k (fun K8 hK8 => ?_)
    refine wp_seq_k (fun K9 hK9 => ?_)
    refine wp_reg mixed [] hst (fun _ => .p rfl (op_assign .k) <| .nil _ _) (by kernel_rfl) (fun n5 a w hst => ?_)
    replace hst : St M w0 73 [(11, ti (0:Int)), (10, tv (.slice none 0 0)), (8, tsl (rSl rI) t20.1), (0, ti n_), (2, tsl rI picks_)] [own rI 3 ([] : List Int) (.slice none 0 0)] a w := (hst.pick [0, 1, 2, 3, 4])
    refine hK9 _ _ ?_
    try clear hK9 K9
    obtain ⟨e12, he12, h⟩ := bind_some h
    have hJp29 : ∀ (p29 : List Int) (v30 : Value) a w, (.inl p29) = e12 → St M w0 73 [(10, tv v30)] [own rI 3 p29 v30] a w → K8 a w := by
      intro p29 v30 a w he hst
      subst he
      simp only at h
      refine hK8 _ _ ?_
      try clear hK8 K8
      refine wp_seq_k (fun K32 hK32 => ?_)
      refine wp_reg mixed [] hst (fun _ => .p rfl (op_move (.t 0 rfl)) <| .p rfl (op_assign (.t 0 rfl)) <| .p rfl (op_assign .k) <| .nil _ _) (by kernel_rfl) (fun n16 a w hst => ?_)
      replace hst : St M w0 73 [(72, tv v30), (6, tv v30), (7, ti (0:Int)), (10, tv v30)] [own rI 3 p29 v30] a w := (hst.pick [0, 1, 2, 3])
      refine hK32 _ _ ?_
      try clear hK32 K32
      refine wp_ret ?_
      replace hst : St M w0 73 [(6, tsl rI p29), (7, ti (0:Int))] [] a w := ((hst.shareO 1 rfl).pick [0, 3])
      obtain rfl := Option.some.inj h
      exact ret_st undef [] hpl hst rfl (.tmp (.t 0 rfl) (.tmp (.t 1 rfl) .nil)) rfl rfl rfl
    have hJp31 : ∀ (p31 : (List Int) × Int) a w, (.inr p31) = e12 → St M w0 73 [(6, tsl rI p31.1), (7, ti p31.2)] [] a w → Ret Try.prog Try.f41 M0 [] w0 (fun _ => []) (fun _ => ttup [tsl rI r.1, ti r.2]) .ret a w := by
      intro p31 a w he hst
      subst he
      simp only at h
      obtain rfl := Option.some.inj h
      exact ret_st undef [] hpl hst rfl (.tmp (.t 0 rfl) (.tmp (.t 1 rfl) .nil)) rfl rfl rfl
    refine wp_block ?_
    refine wp_loopK _ (fun (s10 : Int × List Int) a w => ∃ v11 : Value, St M w0 73 [(11, ti s10.1), (10, tv v11), (8, tsl (rSl rI) t20.1), (0, ti n_), (2, tsl rI picks_)] [own rI 3 s10.2 v11] a w) _ _ he12 ⟨(.slice none 0 0), hst.pick [0, 1, 2, 3, 4]⟩ ?_
    clear h
    intro s10 o a w K33 hI h ho hK33
    obtain ⟨v11, hst⟩ := hI
    refine wp_seq_k (fun K34 hK34 => ?_)
    refine wp_seq_k (fun K35 hK35 => ?_)
    refine wp_reg mixed [] hst (fun _ => .p rfl (op_move (.t 0 rfl)) <| .p rfl (op_move (.t 4 rfl)) <| .p rfl (op_lss (.t 1 rfl) (.t 0 rfl)) <| .nil _ _) (by kernel_rfl) (fun n6 a w hst => ?_)
    replace hst : St M w0 73 [(28, tb (decide (s10.1 < n_))), (11, ti s10.1), (10, tv v11), (8, tsl (rSl rI) t20.1), (0, ti n_), (2, tsl rI picks_)] [own rI 3 s10.2 v11] a w := (hst.pick [2, 3, 4, 5, 6, 7])
    refine hK35 _ _ ?_
    try clear hK35 K35
    refine wp_test 0 hst rfl (fun b49 => ?_) (fun b49 => ?_)
    · replace h := ite_t b49 h
      refine wp_skip ?_
      refine hK34 _ _ ?_
      try clear hK34 K34
      refine wp_seq_k (fun K36 hK36 => ?_)
      refine wp_block ?_
      refine wp_seq_k (fun K37 hK37 => ?_)
      obtain ⟨t34, ht34, h⟩ := bind_some h
      refine wp_reg mixed [] hst (fun _ => .p rfl (op_move (.t 3 rfl)) <| .p rfl (op_move (.t 3 rfl)) <| .u [0] rfl rfl (op_callFU [own rI 3 s10.2 v11] call39 (RangeR_ok ht34) (.cons (.of (.t 1 rfl)) <| .cons (.own (.t 0 rfl) (.head _)) <| .nil) (fun _ => (flat_tup (flat_cons flat_tv (flat_cons flat_tv (flat_cons flat_tv flat_nil))))) (fun _ => flatN0 (x := undef))) <| .p rfl (op_move (.t 0 rfl)) <| .p rfl (op_extract (.t 0 rfl) rfl) <| .p rfl (op_extract (.t 1 rfl) rfl) <| .p rfl (op_extract (.t 2 rfl) rfl) <| .p rfl (op_assign (.t 2 rfl)) <| .p rfl (op_assign (.t 2 rfl)) <| .p rfl (op_assign (.t 2 rfl)) <| .nil _ _) (by kernel_rfl) (fun n8 a w hst => ?_)
      replace hst : St M w0 73 [(33, tv v11), (12, ti t34.1), (13, ti t34.2.1), (14, ti t34.2.2), (11, ti s10.1), (10, tv v11), (8, tsl (rSl rI) t20.1), (0, ti n_), (2, tsl rI picks_)] [own rI 3 s10.2 v11] a w := (hst.pick [1, 7, 8, 9, 11, 12, 13, 14, 15])
      refine hK37 _ _ ?_
      try clear hK37 K37
      refine wp_seq_k (fun K38 hK38 => ?_)
      refine wp_seq_k (fun K39 hK39 => ?_)
      refine wp_reg mixed [] hst (fun _ => .p rfl (op_move (.t 3 rfl)) <| .p rfl (op_neq (.t 0 rfl) .k) <| .p rfl (op_move (.t 0 rfl)) <| .g rfl rfl (.b 0 rfl) (fun _ => op_move (.t 4 rfl)) <| .g rfl rfl (.b 1 rfl) (fun hc => op_eql (.cond (.t 0 rfl) hc) .k) <| .p rfl (op_or (.t 2 rfl) (fun hp => (.cond (.t 0 rfl) (beqF hp)))) <| .p rfl (op_move (.t 0 rfl)) <| .g rfl rfl (.b 0 rfl) (fun _ => op_move (.t 9 rfl)) <| .g rfl rfl (.b 1 rfl) (fun hc => op_eql (.cond (.t 0 rfl) hc) .k) <| .p rfl (op_or (.t 2 rfl) (fun hp => (.cond (.t 0 rfl) (beqF hp)))) <| .nil _ _) (by kernel_rfl) (fun n9 a w hst => ?_)
      replace hst : St M w0 73 [(47, tb (((t34.2.2 != (0:Int)) || (t34.1 == (-1099511627776:Int))) || (t34.2.1 == (1099511627776:Int)))), (33, tv v11), (12, ti t34.1), (13, ti t34.2.1), (11, ti s10.1), (10, tv v11), (8, tsl (rSl rI) t20.1), (0, ti n_), (2, tsl rI picks_)] [own rI 3 s10.2 v11] a w := (hst.pick [9, 10, 11, 12, 14, 15, 16, 17, 18])
      refine hK39 _ _ ?_
      try clear hK39 K39
      refine wp_test 0 hst rfl (fun b48 => ?_) (fun b48 => ?_)
      · replace h := ite_t b48 h
        refine wp_seq_k (fun K40 hK40 => ?_)
        refine wp_reg mixed [] hst (fun _ => .p rfl (op_assign (.nilsl (R := rI))) <| .p rfl (op_assign .k) <| .nil _ _) (by kernel_rfl) (fun n10 a w hst => ?_)
        replace hst : St M w0 73 [(6, tsl rI ([] : List Int)), (7, ti (5:Int)), (33, tv v11), (10, tv v11)] [own rI 3 s10.2 v11] a w := (hst.pick [0, 1, 3, 7])
        refine hK40 _ _ ?_
        try clear hK40 K40
        refine wp_ret ?_
        exact hJp31 _ _ _ (ho _ (Option.some.inj h).symm) ((hst.pick [0, 1]).selA [] rfl)
      · replace h := ite_f b48 h
        refine wp_skip ?_
        refine hK38 _ _ ?_
        try clear hK38 K38
        refine wp_seq_k (fun K41 hK41 => ?_)
        refine wp_reg mixed [] hst (fun _ => .p rfl (op_assign .k) <| .nil _ _) (by kernel_rfl) (fun n11 a w hst => ?_)
        replace hst : St M w0 73 [(15, ti (0:Int)), (33, tv v11), (12, ti t34.1), (13, ti t34.2.1), (11, ti s10.1), (10, tv v11), (8, tsl (rSl rI) t20.1), (0, ti n_), (2, tsl rI picks_)] [own rI 3 s10.2 v11] a w := (hst.pick [0, 2, 3, 4, 5, 6, 7, 8, 9])
        refine hK41 _ _ ?_
        try clear hK41 K41
        refine wp_seq_k (fun K42 hK42 => ?_)
        refine wp_seq_k (fun K43 hK43 => ?_)
        refine wp_reg mixed [] hst (fun _ => .p rfl (op_move (.t 4 rfl)) <| .p rfl (op_move (.t 9 rfl)) <| .p rfl (op_len Try.underlying22 (.t 0 rfl)) <| .p rfl (op_lss (.t 2 rfl) (.t 0 rfl)) <| .nil _ _) (by kernel_rfl) (fun n12 a w hst => ?_)
        replace hst : St M w0 73 [(51, tb (decide (s10.1 < (picks_.length : Int)))), (15, ti (0:Int)), (33, tv v11), (12, ti t34.1), (13, ti t34.2.1), (11, ti s10.1), (10, tv v11), (8, tsl (rSl rI) t20.1), (0, ti n_), (2, tsl rI picks_)] [own rI 3 s10.2 v11] a w := (hst.pick [3, 4, 5, 6, 7, 8, 9, 10, 11, 12])
        refine hK43 _ _ ?_
        try clear hK43 K43
        obtain ⟨p44, hp44, h⟩ := bind_some h
        have hJp44 : ∀ a w, St M w0 73 [(15, ti p44), (12, ti t34.1), (13, ti t34.2.1), (11, ti s10.1), (10, tv v11), (8, tsl (rSl rI) t20.1), (0, ti n_), (2, tsl rI picks_)] [own rI 3 s10.2 v11] a w → K42 a w := by
          intro a w hst
          refine hK42 _ _ ?_
          try clear hK42 K42
          refine wp_seq_k (fun K46 hK46 => ?_)
          refine wp_reg mixed [] hst (fun _ => .p rfl (op_move (.t 2 rfl)) <| .p rfl (op_move (.t 2 rfl)) <| .p rfl (op_sub (.t 1 rfl) (.t 0 rfl)) <| .p rfl (op_add (.t 0 rfl) .k) <| .p rfl (op_assign (.t 0 rfl)) <| .nil _ _) (by kernel_rfl) (fun n14 a w hst => ?_)
          replace hst : St M w0 73 [(16, ti (IntKind.i64.wrap ((IntKind.i64.wrap (t34.2.1 - t34.1)) + (1:Int)))), (15, ti p44), (12, ti t34.1), (11, ti s10.1), (10, tv v11), (8, tsl (rSl rI) t20.1), (0, ti n_), (2, tsl rI picks_)] [own rI 3 s10.2 v11] a w := (hst.pick [4, 5, 6, 8, 9, 10, 11, 12])
          refine hK46 _ _ ?_
          try clear hK46 K46
          obtain ⟨u64, hu64, h⟩ := bind_some h
          obtain ⟨u68, hu68, h⟩ := bind_some h
          obtain ⟨u71, hu71, h⟩ := bind_some h
          refine wp_reg mixed [v1 11 (fun v0 => own rI 3 (s10.2 ++ [(IntKind.i64.wrap (t34.1 + (Int.tmod (IntKind.i64.wrap ((Int.tmod p44 (IntKind.i64.wrap ((IntKind.i64.wrap (t34.2.1 - t34.1)) + (1:Int)))) + (IntKind.i64.wrap ((IntKind.i64.wrap (t34.2.1 - t34.1)) + (1:Int))))) (IntKind.i64.wrap ((IntKind.i64.wrap (t34.2.1 - t34.1)) + (1:Int))))))]) v0)] hst (fun _ => .p rfl (op_move (.t 4 rfl)) <| .p rfl (op_move (.t 3 rfl)) <| .p rfl (op_move (.t 3 rfl)) <| .p rfl (op_move (.t 3 rfl)) <| .p rfl (op_rem (.t 1 rfl) (.t 0 rfl) (nz_ne hu64)) <| .p rfl (op_move (.t 5 rfl)) <| .p rfl (op_add (.t 1 rfl) (.t 0 rfl)) <| .p rfl (op_move (.t 7 rfl)) <| .p rfl (op_rem (.t 1 rfl) (.t 0 rfl) (nz_ne hu68)) <| .p rfl (op_add (.t 7 rfl) (.t 0 rfl)) <| .p rfl (op_buildSl (R := rI) (us := [(IntKind.i64.wrap (t34.1 + (Int.tmod (IntKind.i64.wrap ((Int.tmod p44 (IntKind.i64.wrap ((IntKind.i64.wrap (t34.2.1 - t34.1)) + (1:Int)))) + (IntKind.i64.wrap ((IntKind.i64.wrap (t34.2.1 - t34.1)) + (1:Int))))) (IntKind.i64.wrap ((IntKind.i64.wrap (t34.2.1 - t34.1)) + (1:Int))))))]) Try.underlying22 tok3 (.cons (.t 0 rfl) <| .nil _) rfl (Nat.le_of_ble_eq_true rfl)) <| .e [] [0] [1] rfl rfl rfl rfl (op_append (R := rI) Try.underlying22 tok3 (Nat.le_of_ble_eq_true rfl) (.t 10 rfl) (.t 0 rfl) hu71) <| .ud (f := fun v => tv v) 11 rfl [] rfl rfl (op_assign (.t 0 rfl)) <| .nil _ _) (by kernel_rfl) (fun n15 a w hst => ?_)
          replace hst : St M w0 73 [(71, tv (n15 11)), (10, tv (n15 11)), (11, ti s10.1), (8, tsl (rSl rI) t20.1), (0, ti n_), (2, tsl rI picks_)] [own rI 3 (s10.2 ++ [(IntKind.i64.wrap (t34.1 + (Int.tmod (IntKind.i64.wrap ((Int.tmod p44 (IntKind.i64.wrap ((IntKind.i64.wrap (t34.2.1 - t34.1)) + (1:Int)))) + (IntKind.i64.wrap ((IntKind.i64.wrap (t34.2.1 - t34.1)) + (1:Int))))) (IntKind.i64.wrap ((IntKind.i64.wrap (t34.2.1 - t34.1)) + (1:Int))))))]) (n15 11)] a w := (hst.pick [11, 12, 16, 17, 18, 19])
          refine hK36 _ _ ?_
          try clear hK36 K36
          refine wp_reg mixed [] hst (fun _ => .p rfl (op_move (.t 2 rfl)) <| .p rfl (op_add (.t 0 rfl) .k) <| .p rfl (op_assign (.t 0 rfl)) <| .nil _ _) (by kernel_rfl) (fun n7 a w hst => ?_)
          replace hst : St M w0 73 [(11, ti (IntKind.i64.wrap (s10.1 + (1:Int)))), (71, tv (n15 11)), (10, tv (n15 11)), (8, tsl (rSl rI) t20.1), (0, ti n_), (2, tsl rI picks_)] [own rI 3 (s10.2 ++ [(IntKind.i64.wrap (t34.1 + (Int.tmod (IntKind.i64.wrap ((Int.tmod p44 (IntKind.i64.wrap ((IntKind.i64.wrap (t34.2.1 - t34.1)) + (1:Int)))) + (IntKind.i64.wrap ((IntKind.i64.wrap (t34.2.1 - t34.1)) + (1:Int))))) (IntKind.i64.wrap ((IntKind.i64.wrap (t34.2.1 - t34.1)) + (1:Int))))))]) (n15 11)] a w := (hst.pick [2, 3, 4, 5, 6, 7])
          exact hK33 _ _ _ (Option.some.inj h).symm ⟨(n15 11), hst.pick [0, 2, 3, 4, 5]⟩
        replace h := hp44
        clear hp44
        refine wp_test 0 hst rfl (fun b47 => ?_) (fun b47 => ?_)
        · replace h := ite_t b47 h
          obtain ⟨t54, ht54, h⟩ := bind_some h
          refine wp_reg mixed [] hst (fun _ => .p rfl (op_move (.t 9 rfl)) <| .p rfl (op_move (.t 6 rfl)) <| .p rfl (op_index Try.underlying22 tok3 (.t 1 rfl) (.t 0 rfl) ht54) <| .p rfl (op_load tok3 (.t 0 rfl)) <| .p rfl (op_assign (.t 0 rfl)) <| .nil _ _) (by kernel_rfl) (fun n13 a w hst => ?_)
          replace hst : St M w0 73 [(15, ti t54), (33, tv v11), (12, ti t34.1), (13, ti t34.2.1), (11, ti s10.1), (10, tv v11), (8, tsl (rSl rI) t20.1), (0, ti n_), (2, tsl rI picks_)] [own rI 3 s10.2 v11] a w := (hst.pick [4, 6, 7, 8, 9, 10, 11, 12, 13])
          obtain rfl := Option.some.inj h
          exact hJp44 _ _ (hst.pick [0, 2, 3, 4, 5, 6, 7, 8])
        · replace h := ite_f b47 h
          refine wp_skip ?_
          obtain rfl := Option.some.inj h
          exact hJp44 _ _ (hst.pick [1, 3, 4, 5, 6, 7, 8, 9])
    · replace h := ite_f b49 h
      refine wp_exit ?_
      exact hJp29 _ v11 _ _ (ho _ (Option.some.inj h).symm) (hst.pick [2])

/- diorama/dioramalaw14.lives -/
noncomputable def flives14  : Option (Bool) := (fClose (2:Int) [(SDiff.mk (0:Int) (-1:Int) (10:Int)), (SDiff.mk (-1:Int) (0:Int) (0:Int)), (SDiff.mk (1:Int) (0:Int) (-2:Int)), (SDiff.mk (-1:Int) (1:Int) (-3:Int))]).bind fun t20 => (fRange t20.1 [(6:Int)]).bind fun t26 => (fFill (2:Int) [(SDiff.mk (0:Int) (-1:Int) (10:Int)), (SDiff.mk (-1:Int) (0:Int) (0:Int)), (SDiff.mk (1:Int) (0:Int) (-2:Int)), (SDiff.mk (-1:Int) (1:Int) (-3:Int))] [(1:Int), (4:Int)]).bind fun t33 => (fCycle (2:Int) [(SDiff.mk (0:Int) (-1:Int) (10:Int)), (SDiff.mk (-1:Int) (0:Int) (0:Int)), (SDiff.mk (1:Int) (0:Int) (-2:Int)), (SDiff.mk (-1:Int) (1:Int) (-3:Int))]).bind fun t38 => (rm ([(SDiff.mk (0:Int) (-1:Int) (10:Int)), (SDiff.mk (-1:Int) (0:Int) (0:Int)), (SDiff.mk (1:Int) (0:Int) (-2:Int)), (SDiff.mk (-1:Int) (1:Int) (-3:Int))].length + [(SDiff.mk (0:Int) (-1:Int) (4:Int))].length)).bind fun _ => (fCycle (2:Int) ([(SDiff.mk (0:Int) (-1:Int) (10:Int)), (SDiff.mk (-1:Int) (0:Int) (0:Int)), (SDiff.mk (1:Int) (0:Int) (-2:Int)), (SDiff.mk (-1:Int) (1:Int) (-3:Int))] ++ [(SDiff.mk (0:Int) (-1:Int) (4:Int))])).bind fun t46 => (if (((((((t20.2 != (0:Int)) || (t26.2.2 != (0:Int))) || (t33.2 != (0:Int))) || (t38.2 != (6:Int))) || (t46.2 != (0:Int))) || (t26.1 != (3:Int))) || (t26.2.1 != (4:Int))) = true then (some false) else (fSameTables t20.1 [[(0:Int), (7:Int), (10:Int)], [(-2:Int), (0:Int), (8:Int)], [(-5:Int), (-3:Int), (0:Int)]]).bind fun t80 => (opt (t80 == true) (fSameInts t33.1 [(6:Int), (3:Int)]) default).bind fun t84 => (opt ((t80 && t84) == true) (fSameInts t46.1 [(2:Int), (4:Int), (3:Int)]) default).bind fun t89 => (opt (((t80 && t84) && t89) == true) (fHolds [(SDiff.mk (0:Int) (-1:Int) (10:Int)), (SDiff.mk (-1:Int) (0:Int) (0:Int)), (SDiff.mk (1:Int) (0:Int) (-2:Int)), (SDiff.mk (-1:Int) (1:Int) (-3:Int))] t33.1) default).bind fun t94 => (opt ((((t80 && t84) && t89) && (t94 == (-1:Int))) == true) (fHolds [(SDiff.mk (0:Int) (-1:Int) (10:Int)), (SDiff.mk (-1:Int) (0:Int) (0:Int)), (SDiff.mk (1:Int) (0:Int) (-2:Int)), (SDiff.mk (-1:Int) (1:Int) (-3:Int))] [(6:Int), (5:Int)]) default).bind fun t100 => (some ((((t80 && t84) && t89) && (t94 == (-1:Int))) && (t100 == (2:Int)))))
set_option maxRecDepth 100000 in
set_option maxHeartbeats 4000000 in
theorem lives14_ok {r : Bool} (h : flives14  = some r) : FnOk Try.prog 37 [] [] (fun _ => []) (fun _ => tb r) := by
  unfold flives14 at h
  refine FnOk.enter Try.func37 rfl Try.ntmps37 (Nat.le_of_ble_eq_true rfl) (fun M0 M w0 a hpl hst => ?_)
  replace hst : St M w0 103 [] [] a w0 := hst
  refine wp_seq_k (fun K1 hK1 => ?_)
  refine wp_reg mixed [] hst (fun _ => .p rfl (op_assign .k) <| .nil _ _) (by kernel_rfl) (fun n0 a w hst => ?_)
  replace hst : St M w0 103 [] [] a w := (hst.pick [])
  refine hK1 _ _ ?_
  try clear hK1 K1
  refine wp_seq_k (fun K2 hK2 => ?_)
  refine wp_reg mixed [] hst (fun _ => .p (T := rSDiff.ty (SDiff.mk (0:Int) (-1:Int) (10:Int))) rfl (op_build Try.underlying72 pl72 zv72 zc72 (.cons (R := rI) (u := (0:Int)) rfl .k (Nat.le_of_ble_eq_true rfl) <| .cons (R := rI) (u := (-1:Int)) rfl .k (Nat.le_of_ble_eq_true rfl) <| .cons (R := rI) (u := (10:Int)) rfl .k (Nat.le_of_ble_eq_true rfl) <| .nil _)) <| .p (T := rSDiff.ty (SDiff.mk (-1:Int) (0:Int) (0:Int))) rfl (op_build Try.underlying72 pl72 zv72 zc72 (.cons (R := rI) (u := (-1:Int)) rfl .k (Nat.le_of_ble_eq_true rfl) <| .cons (R := rI) (u := (0:Int)) rfl .k (Nat.le_of_ble_eq_true rfl) <| .nil _)) <| .p (T := rSDiff.ty (SDiff.mk (1:Int) (0:Int) (-2:Int))) rfl (op_build Try.underlying72 pl72 zv72 zc72 (.cons (R := rI) (u := (1:Int)) rfl .k (Nat.le_of_ble_eq_true rfl) <| .cons (R := rI) (u := (0:Int)) rfl .k (Nat.le_of_ble_eq_true rfl) <| .cons (R := rI) (u := (-2:Int)) rfl .k (Nat.le_of_ble_eq_true rfl) <| .nil _)) <| .p (T := rSDiff.ty (SDiff.mk (-1:Int) (1:Int) (-3:Int))) rfl (op_build Try.underlying72 pl72 zv72 zc72 (.cons (R := rI) (u := (-1:Int)) rfl .k (Nat.le_of_ble_eq_true rfl) <| .cons (R := rI) (u := (1:Int)) rfl .k (Nat.le_of_ble_eq_true rfl) <| .cons (R := rI) (u := (-3:Int)) rfl .k (Nat.le_of_ble_eq_true rfl) <| .nil _)) <| .p rfl (op_buildSlF (R := rSDiff) (us := [(SDiff.mk (0:Int) (-1:Int) (10:Int)), (SDiff.mk (-1:Int) (0:Int) (0:Int)), (SDiff.mk (1:Int) (0:Int) (-2:Int)), (SDiff.mk (-1:Int) (1:Int) (-3:Int))]) Try.underlying55 tok72 (.cons (.t 3 rfl) <| .cons (.t 2 rfl) <| .cons (.t 1 rfl) <| .cons (.t 0 rfl) <| .nil _) rfl (Nat.le_of_ble_eq_true rfl)) <| .p rfl (op_assign (.t 0 rfl)) <| .nil _ _) (by kernel_rfl) (fun n1 a w hst => ?_)
  replace hst : St M w0 103 [(1, tslF rSDiff [(SDiff.mk (0:Int) (-1:Int) (10:Int)), (SDiff.mk (-1:Int) (0:Int) (0:Int)), (SDiff.mk (1:Int) (0:Int) (-2:Int)), (SDiff.mk (-1:Int) (1:Int) (-3:Int))])] [] a w := (hst.pick [5])
  refine hK2 _ _ ?_
  try clear hK2 K2
  refine wp_seq_k (fun K3 hK3 => ?_)
  obtain ⟨t20, ht20, h⟩ := bind_some h
  refine wp_reg mixed [] hst (fun _ => .p rfl (op_move (.t 0 rfl)) <| .p rfl (op_callF call31 (Close_ok ht20) (.cons (.of .k) <| .cons (.of (.left (.t 0 rfl))) <| .nil)) <| .p rfl (op_move (.t 0 rfl)) <| .p rfl (op_extract (.t 0 rfl) rfl) <| .p rfl (op_extract (.t 1 rfl) rfl) <| .p rfl (op_assign (.t 1 rfl)) <| .p rfl (op_assign (.t 1 rfl)) <| .nil _ _) (by kernel_rfl) (fun n2 a w hst => ?_)
  replace hst : St M w0 103 [(2, tsl (rSl rI) t20.1), (3, ti t20.2), (1, tslF rSDiff [(SDiff.mk (0:Int) (-1:Int) (10:Int)), (SDiff.mk (-1:Int) (0:Int) (0:Int)), (SDiff.mk (1:Int) (0:Int) (-2:Int)), (SDiff.mk (-1:Int) (1:Int) (-3:Int))])] [] a w := (hst.pick [5, 6, 7])
  refine hK3 _ _ ?_
  try clear hK3 K3
  refine wp_seq_k (fun K4 hK4 => ?_)
  obtain ⟨t26, ht26, h⟩ := bind_some h
  refine wp_reg mixed [] hst (fun _ => .p rfl (op_move (.t 0 rfl)) <| .p rfl (op_buildSl (R := rI) (us := [(6:Int)]) Try.underlying22 tok3 (.cons .k <| .nil _) rfl (Nat.le_of_ble_eq_true rfl)) <| .p rfl (op_callF call38 (Range_ok ht26) (.cons (.of (.t 1 rfl)) <| .cons (.of (.t 0 rfl)) <| .nil)) <| .p rfl (op_move (.t 0 rfl)) <| .p rfl (op_extract (.t 0 rfl) rfl) <| .p rfl (op_extract (.t 1 rfl) rfl) <| .p rfl (op_extract (.t 2 rfl) rfl) <| .p rfl (op_assign (.t 2 rfl)) <| .p rfl (op_assign (.t 2 rfl)) <| .p rfl (op_assign (.t 2 rfl)) <| .nil _ _) (by kernel_rfl) (fun n3 a w hst => ?_)
  replace hst : St M w0 103 [(4, ti t26.1), (5, ti t26.2.1), (6, ti t26.2.2), (2, tsl (rSl rI) t20.1), (3, ti t20.2), (1, tslF rSDiff [(SDiff.mk (0:Int) (-1:Int) (10:Int)), (SDiff.mk (-1:Int) (0:Int) (0:Int)), (SDiff.mk (1:Int) (0:Int) (-2:Int)), (SDiff.mk (-1:Int) (1:Int) (-3:Int))])] [] a w := (hst.pick [7, 8, 9, 10, 11, 12])
  refine hK4 _ _ ?_
  try clear hK4 K4
  refine wp_seq_k (fun K5 hK5 => ?_)
  obtain ⟨t33, ht33, h⟩ := bind_some h
  refine wp_reg mixed [] hst (fun _ => .p rfl (op_move (.t 5 rfl)) <| .p rfl (op_buildSl (R := rI) (us := [(1:Int), (4:Int)]) Try.underlying22 tok3 (.cons .k <| .cons .k <| .nil _) rfl (Nat.le_of_ble_eq_true rfl)) <| .p rfl (op_callF call40 (Fill_ok ht33) (.cons (.of .k) <| .cons (.of (.left (.t 1 rfl))) <| .cons (.of (.t 0 rfl)) <| .nil)) <| .p rfl (op_move (.t 0 rfl)) <| .p rfl (op_extract (.t 0 rfl) rfl) <| .p rfl (op_extract (.t 1 rfl) rfl) <| .p rfl (op_assign (.t 1 rfl)) <| .p rfl (op_assign (.t 1 rfl)) <| .nil _ _) (by kernel_rfl) (fun n4 a w hst => ?_)
  replace hst : St M w0 103 [(7, tsl rI t33.1), (8, ti t33.2), (4, ti t26.1), (5, ti t26.2.1), (6, ti t26.2.2), (2, tsl (rSl rI) t20.1), (3, ti t20.2), (1, tslF rSDiff [(SDiff.mk (0:Int) (-1:Int) (10:Int)), (SDiff.mk (-1:Int) (0:Int) (0:Int)), (SDiff.mk (1:Int) (0:Int) (-2:Int)), (SDiff.mk (-1:Int) (1:Int) (-3:Int))])] [] a w := (hst.pick [6, 7, 8, 9, 10, 11, 12, 13])
  refine hK5 _ _ ?_
  try clear hK5 K5
  refine wp_seq_k (fun K6 hK6 => ?_)
  obtain ⟨t38, ht38, h⟩ := bind_some h
  refine wp_reg mixed [] hst (fun _ => .p rfl (op_move (.t 7 rfl)) <| .p rfl (op_callF call34 (Cycle_ok ht38) (.cons (.of .k) <| .cons (.of (.left (.t 0 rfl))) <| .nil)) <| .p rfl (op_move (.t 0 rfl)) <| .p rfl (op_extract (.t 0 rfl) rfl) <| .p rfl (op_extract (.t 1 rfl) rfl) <| .p rfl (op_assign (.t 1 rfl)) <| .p rfl (op_assign (.t 1 rfl)) <| .nil _ _) (by kernel_rfl) (fun n5 a w hst => ?_)
  replace hst : St M w0 103 [(10, ti t38.2), (7, tsl rI t33.1), (8, ti t33.2), (4, ti t26.1), (5, ti t26.2.1), (6, ti t26.2.2), (2, tsl (rSl rI) t20.1), (3, ti t20.2), (1, tslF rSDiff [(SDiff.mk (0:Int) (-1:Int) (10:Int)), (SDiff.mk (-1:Int) (0:Int) (0:Int)), (SDiff.mk (1:Int) (0:Int) (-2:Int)), (SDiff.mk (-1:Int) (1:Int) (-3:Int))])] [] a w := (hst.pick [6, 7, 8, 9, 10, 11, 12, 13, 14])
  refine hK6 _ _ ?_
  try clear hK6 K6
  refine wp_seq_k (fun K7 hK7 => ?_)
  obtain ⟨u45, hu45, h⟩ := bind_some h
  obtain ⟨t46, ht46, h⟩ := bind_some h
  refine wp_reg mixed [] hst (fun _ => .p rfl (op_move (.t 8 rfl)) <| .p (T := rSDiff.ty (SDiff.mk (0:Int) (-1:Int) (4:Int))) rfl (op_build Try.underlying72 pl72 zv72 zc72 (.cons (R := rI) (u := (0:Int)) rfl .k (Nat.le_of_ble_eq_true rfl) <| .cons (R := rI) (u := (-1:Int)) rfl .k (Nat.le_of_ble_eq_true rfl) <| .cons (R := rI) (u := (4:Int)) rfl .k (Nat.le_of_ble_eq_true rfl) <| .nil _)) <| .p rfl (op_buildSl (R := rSDiff) (us := [(SDiff.mk (0:Int) (-1:Int) (4:Int))]) Try.underlying55 tok72 (.cons (.t 0 rfl) <| .nil _) rfl (Nat.le_of_ble_eq_true rfl)) <| .p rfl (.ro (op_appendF (R := rSDiff) Try.underlying55 tok72 (Nat.le_of_ble_eq_true rfl) (.t 2 rfl) (.t 0 rfl) (by simp) hu45)) <| .p rfl (op_callF call34 (Cycle_ok ht46) (.cons (.of .k) <| .cons (.of (.t 0 rfl)) <| .nil)) <| .p rfl (op_move (.t 0 rfl)) <| .p rfl (op_extract (.t 0 rfl) rfl) <| .p rfl (op_extract (.t 1 rfl) rfl) <| .p rfl (op_assign (.t 1 rfl)) <| .p rfl (op_assign (.t 1 rfl)) <| .nil _ _) (by kernel_rfl) (fun n6 a w hst => ?_)
  replace hst : St M w0 103 [(11, tsl rI t46.1), (12, ti t46.2), (10, ti t38.2), (7, tsl rI t33.1), (8, ti t33.2), (4, ti t26.1), (5, ti t26.2.1), (6, ti t26.2.2), (2, tsl (rSl rI) t20.1), (3, ti t20.2), (1, tslF rSDiff [(SDiff.mk (0:Int) (-1:Int) (10:Int)), (SDiff.mk (-1:Int) (0:Int) (0:Int)), (SDiff.mk (1:Int) (0:Int) (-2:Int)), (SDiff.mk (-1:Int) (1:Int) (-3:Int))])] [] a w := (hst.pick [8, 9, 10, 11, 12, 13, 14, 15, 16, 17, 18])
  refine hK7 _ _ ?_
  try clear hK7 K7
  refine wp_seq_k (fun K8 hK8 => ?_)
  refine wp_seq_k (fun K9 hK9 => ?_)
  refine wp_reg mixed [] hst (fun _ => .p rfl (op_move (.t 9 rfl)) <| .p rfl (op_neq (.t 0 rfl) .k) <| .p rfl (op_move (.t 0 rfl)) <| .g rfl rfl (.b 0 rfl) (fun _ => op_move (.t 10 rfl)) <| .g rfl rfl (.b 1 rfl) (fun hc => op_neq (.cond (.t 0 rfl) hc) .k) <| .p rfl (op_or (.t 2 rfl) (fun hp => (.cond (.t 0 rfl) (beqF hp)))) <| .p rfl (op_move (.t 0 rfl)) <| .g rfl rfl (.b 0 rfl) (fun _ => op_move (.t 11 rfl)) <| .g rfl rfl (.b 1 rfl) (fun hc => op_neq (.cond (.t 0 rfl) hc) .k) <| .p rfl (op_or (.t 2 rfl) (fun hp => (.cond (.t 0 rfl) (beqF hp)))) <| .p rfl (op_move (.t 0 rfl)) <| .g rfl rfl (.b 0 rfl) (fun _ => op_move (.t 13 rfl)) <| .g rfl rfl (.b 1 rfl) (fun hc => op_neq (.cond (.t 0 rfl) hc) .k) <| .p rfl (op_or (.t 2 rfl) (fun hp => (.cond (.t 0 rfl) (beqF hp)))) <| .p rfl (op_move (.t 0 rfl)) <| .g rfl rfl (.b 0 rfl) (fun _ => op_move (.t 16 rfl)) <| .g rfl rfl (.b 1 rfl) (fun hc => op_neq (.cond (.t 0 rfl) hc) .k) <| .p rfl (op_or (.t 2 rfl) (fun hp => (.cond (.t 0 rfl) (beqF hp)))) <| .p rfl (op_move (.t 0 rfl)) <| .g rfl rfl (.b 0 rfl) (fun _ => op_move (.t 24 rfl)) <| .g rfl rfl (.b 1 rfl) (fun hc => op_neq (.cond (.t 0 rfl) hc) .k) <| .p rfl (op_or (.t 2 rfl) (fun hp => (.cond (.t 0 rfl) (beqF hp)))) <| .p rfl (op_move (.t 0 rfl)) <| .g rfl rfl (.b 0 rfl) (fun _ => op_move (.t 29 rfl)) <| .g rfl rfl (.b 1 rfl) (fun hc => op_neq (.cond (.t 0 rfl) hc) .k) <| .p rfl (op_or (.t 2 rfl) (fun hp => (.cond (.t 0 rfl) (beqF hp)))) <| .nil _ _) (by kernel_rfl) (fun n7 a w hst => ?_)
  replace hst : St M w0 103 [(74, tb (((((((t20.2 != (0:Int)) || (t26.2.2 != (0:Int))) || (t33.2 != (0:Int))) || (t38.2 != (6:Int))) || (t46.2 != (0:Int))) || (t26.1 != (3:Int))) || (t26.2.1 != (4:Int)))), (11, tsl rI t46.1), (7, tsl rI t33.1), (2, tsl (rSl rI) t20.1), (1, tslF rSDiff [(SDiff.mk (0:Int) (-1:Int) (10:Int)), (SDiff.mk (-1:Int) (0:Int) (0:Int)), (SDiff.mk (1:Int) (0:Int) (-2:Int)), (SDiff.mk (-1:Int) (1:Int) (-3:Int))])] [] a w := (hst.pick [25, 26, 29, 34, 36])
  refine hK9 _ _ ?_
  try clear hK9 K9
  refine wp_test 0 hst rfl (fun b12 => ?_) (fun b12 => ?_)
  · replace h := ite_t b12 h
    refine wp_seq_k (fun K10 hK10 => ?_)
    refine wp_reg mixed [] hst (fun _ => .p rfl (op_assign .k) <| .nil _ _) (by kernel_rfl) (fun n8 a w hst => ?_)
    replace hst : St M w0 103 [(0, tb false)] [] a w := (hst.pick [0])
    refine hK10 _ _ ?_
    try clear hK10 K10
    refine wp_ret ?_
    obtain rfl := Option.some.inj h
    exact ret_st undef [] hpl hst rfl (.tmp (.t 0 rfl) .nil) rfl rfl rfl
  · replace h := ite_f b12 h
    refine wp_skip ?_
    refine hK8 _ _ ?_
    try clear hK8 K8
    refine wp_seq_k (fun K11 hK11 => ?_)
    obtain ⟨t80, ht80, h⟩ := bind_some h
    obtain ⟨t84, ht84, h⟩ := bind_some h
    obtain ⟨t89, ht89, h⟩ := bind_some h
    obtain ⟨t94, ht94, h⟩ := bind_some h
    obtain ⟨t100, ht100, h⟩ := bind_some h
    refine wp_reg mixed [] hst (fun _ => .p rfl (op_move (.t 3 rfl)) <| .p rfl (op_buildSl (R := rI) (us := [(0:Int), (7:Int), (10:Int)]) Try.underlying22 tok3 (.cons .k <| .cons .k <| .cons .k <| .nil _) rfl (Nat.le_of_ble_eq_true rfl)) <| .p rfl (op_buildSl (R := rI) (us := [(-2:Int), (0:Int), (8:Int)]) Try.underlying22 tok3 (.cons .k <| .cons .k <| .cons .k <| .nil _) rfl (Nat.le_of_ble_eq_true rfl)) <| .p rfl (op_buildSl (R := rI) (us := [(-5:Int), (-3:Int), (0:Int)]) Try.underlying22 tok3 (.cons .k <| .cons .k <| .cons .k <| .nil _) rfl (Nat.le_of_ble_eq_true rfl)) <| .p rfl (op_buildSl (R := (rSl rI)) (us := [[(0:Int), (7:Int), (10:Int)], [(-2:Int), (0:Int), (8:Int)], [(-5:Int), (-3:Int), (0:Int)]]) Try.underlying26 tok22 (.cons (.t 2 rfl) <| .cons (.t 1 rfl) <| .cons (.t 0 rfl) <| .nil _) rfl (Nat.le_of_ble_eq_true rfl)) <| .p rfl (op_callF call36 (SameTables_ok ht80) (.cons (.of (.t 4 rfl)) <| .cons (.of (.t 0 rfl)) <| .nil)) <| .p rfl (op_move (.t 0 rfl)) <| .g rfl rfl (.b 0 rfl) (fun _ => op_move (.t 9 rfl)) <| .g rfl rfl (.b 1 rfl) (fun _ => op_buildSl (R := rI) (us := [(6:Int), (3:Int)]) Try.underlying22 tok3 (.cons .k <| .cons .k <| .nil _) rfl (Nat.le_of_ble_eq_true rfl)) <| .g rfl rfl (.b 2 rfl) (fun hc => op_callF call18 (SameInts_ok (opt_t ht84 hc)) (.cons (.of (.cond (.t 1 rfl) hc)) <| .cons (.of (.cond (.t 0 rfl) hc)) <| .nil)) <| .p rfl (op_and (.t 3 rfl) (fun hp => (.cond (.t 0 rfl) (beqT hp)))) <| .p rfl (op_move (.t 0 rfl)) <| .g rfl rfl (.b 0 rfl) (fun _ => op_move (.t 13 rfl)) <| .g rfl rfl (.b 1 rfl) (fun _ => op_buildSl (R := rI) (us := [(2:Int), (4:Int), (3:Int)]) Try.underlying22 tok3 (.cons .k <| .cons .k <| .cons .k <| .nil _) rfl (Nat.le_of_ble_eq_true rfl)) <| .g rfl rfl (.b 2 rfl) (fun hc => op_callF call18 (SameInts_ok (opt_t ht89 hc)) (.cons (.of (.cond (.t 1 rfl) hc)) <| .cons (.of (.cond (.t 0 rfl) hc)) <| .nil)) <| .p rfl (op_and (.t 3 rfl) (fun hp => (.cond (.t 0 rfl) (beqT hp)))) <| .p rfl (op_move (.t 0 rfl)) <| .g rfl rfl (.b 0 rfl) (fun _ => op_move (.t 21 rfl)) <| .g rfl rfl (.b 1 rfl) (fun _ => op_move (.t 20 rfl)) <| .g rfl rfl (.b 2 rfl) (fun hc => op_callF call42 (Holds_ok (opt_t ht94 hc)) (.cons (.of (.left (.cond (.t 1 rfl) hc))) <| .cons (.of (.cond (.t 0 rfl) hc)) <| .nil)) <| .g rfl rfl (.b 3 rfl) (fun hc => op_eql (.cond (.t 0 rfl) hc) .k) <| .p rfl (op_and (.t 4 rfl) (fun hp => (.cond (.t 0 rfl) (beqT hp)))) <| .p rfl (op_move (.t 0 rfl)) <| .g rfl rfl (.b 0 rfl) (fun _ => op_move (.t 27 rfl)) <| .g rfl rfl (.b 1 rfl) (fun _ => op_buildSl (R := rI) (us := [(6:Int), (5:Int)]) Try.underlying22 tok3 (.cons .k <| .cons .k <| .nil _) rfl (Nat.le_of_ble_eq_true rfl)) <| .g rfl rfl (.b 2 rfl) (fun hc => op_callF call42 (Holds_ok (opt_t ht100 hc)) (.cons (.of (.left (.cond (.t 1 rfl) hc))) <| .cons (.of (.cond (.t 0 rfl) hc)) <| .nil)) <| .g rfl rfl (.b 3 rfl) (fun hc => op_eql (.cond (.t 0 rfl) hc) .k) <| .p rfl (op_and (.t 4 rfl) (fun hp => (.cond (.t 0 rfl) (beqT hp)))) <| .p rfl (op_assign (.t 0 rfl)) <| .nil _ _) (by kernel_rfl) (fun n9 a w hst => ?_)
    replace hst : St M w0 103 [(0, tb ((((t80 && t84) && t89) && (t94 == (-1:Int))) && (t100 == (2:Int))))] [] a w := (hst.pick [28])
    refine hK11 _ _ ?_
    try clear hK11 K11
    refine wp_ret ?_
    obtain rfl := Option.some.inj h
    exact ret_st undef [] hpl hst rfl (.tmp (.t 0 rfl) .nil) rfl rfl rfl


end Go.Proofs.Ytjniiejgccdhiaa
