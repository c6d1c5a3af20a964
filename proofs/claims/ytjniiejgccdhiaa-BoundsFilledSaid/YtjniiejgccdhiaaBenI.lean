/- Go functions as Lean functions, and the proofs that they compute them, written by a program. No condition. -/
import Derived.Test.YtjniiejgccdhiaaBenF
namespace Go.Proofs.Ytjniiejgccdhiaa
open Go.Sim

/- diorama/dioramalaw14.BoundsFills -/
noncomputable def fBoundsFills (l_ : (List Int)) (at_ : Int) (how_ : Int) (by_ : Int) (picks_ : (List Int)) (raw_ : (List Int)) : Option (Bool) := (fMade14 l_).bind fun t25 => (fBent t25.2 at_ how_ by_).bind fun t33 => (fTake raw_ (8:Int)).bind fun t36 => (tailrec (fun (s8 : Int × List Int) => ((if (decide (s8.1 < (s8.2.length : Int))) = true then (idx s8.2 s8.1).bind fun t47 => (fAround t47 (2199023255553:Int)).bind fun t49 => (setAt s8.2 s8.1 (IntKind.i64.wrap (t49 - (1099511627776:Int)))).bind fun t51s => (some (.inl ((IntKind.i64.wrap (s8.1 + (1:Int))), t51s))) else (some (.inr s8.2))) : Option ((Int × List Int) ⊕ ((List Int))))) ((0:Int), t36)).bind fun (p14 : (List Int)) => (tailrec (fun (s17 : Int) => ((if (decide (s17 < (2:Int))) = true then (idx [t25.2, t33] s17).bind fun t60 => (fown14 t60).bind fun t62 => (fFill t25.1 t62 picks_).bind fun t64 => (idx [t25.2, t33] s17).bind fun t71 => (fFillR t25.1 t71 picks_).bind fun t74 => (opt ((t64.2 != t74.2) == false) (fSameInts t64.1 t74.1) default).bind fun t83 => (if ((t64.2 != t74.2) || (!t83)) = true then (some (.inr (.inr false))) else (idx [t25.2, t33] s17).bind fun t88 => (fown14 t88).bind fun t90 => (fHolds t90 t64.1).bind fun t92 => (idx [t25.2, t33] s17).bind fun t95 => (fHoldsR t95 t64.1).bind fun t98 => (opt ((t92 != t98) == false) (idx [t25.2, t33] s17) default).bind fun t103 => (opt ((t92 != t98) == false) (fown14 t103) default).bind fun t105 => (opt ((t92 != t98) == false) (fHolds t105 p14) default).bind fun t107 => (opt ((t92 != t98) == false) (idx [t25.2, t33] s17) default).bind fun t110 => (opt ((t92 != t98) == false) (fHoldsR t110 p14) default).bind fun t113 => (if ((t92 != t98) || (t107 != t113)) = true then (some (.inr (.inr false))) else (some (.inl (IntKind.i64.wrap (s17 + (1:Int))))))) else (some (.inr (.inl ())))) : Option ((Int) ⊕ ((Unit) ⊕ (Bool))))) (0:Int)).bind fun (e18 : (Unit) ⊕ (Bool)) => (match e18 with | .inl p32 => (flives14).bind fun t116 => (some t116) | .inr p33 => (some p33))
set_option maxRecDepth 100000 in
set_option maxHeartbeats 4000000 in
theorem BoundsFills_ok {l_ : (List Int)} {at_ : Int} {how_ : Int} {by_ : Int} {picks_ : (List Int)} {raw_ : (List Int)} {r : Bool} (h : fBoundsFills l_ at_ how_ by_ picks_ raw_ = some r) : FnOk Try.prog 8 [tsl rI l_, ti at_, ti how_, ti by_, tsl rI picks_, tsl rI raw_] [] (fun _ => []) (fun _ => tb r) := by
  unfold fBoundsFills at h
  refine FnOk.enter Try.func8 rfl Try.ntmps8 (Nat.le_of_ble_eq_true rfl) (fun M0 M w0 a hpl hst => ?_)
  replace hst : St M w0 117 [(0, tsl rI l_), (1, ti at_), (2, ti how_), (3, ti by_), (4, tsl rI picks_), (5, tsl rI raw_)] [] a w0 := hst
  refine wp_seq_k (fun K1 hK1 => ?_)
  refine wp_reg mixed [] hst (fun _ => .p rfl (op_assign .k) <| .nil _ _) (by kernel_rfl) (fun n0 a w hst => ?_)
  replace hst : St M w0 117 [(0, tsl rI l_), (1, ti at_), (2, ti how_), (3, ti by_), (4, tsl rI picks_), (5, tsl rI raw_)] [] a w := (hst.pick [1, 2, 3, 4, 5, 6])
  refine hK1 _ _ ?_
  try clear hK1 K1
  refine wp_seq_k (fun K2 hK2 => ?_)
  obtain ⟨t25, ht25, h⟩ := bind_some h
  refine wp_reg mixed [] hst (fun _ => .p rfl (op_move (.t 0 rfl)) <| .p rfl (op_callF call29 ((Made14_ok ht25).ro ro_tup1) (.cons (.of (.t 0 rfl)) <| .nil)) <| .p rfl (op_move (.t 0 rfl)) <| .p rfl (op_extract (.t 0 rfl) rfl) <| .p rfl (op_extract (.t 1 rfl) rfl) <| .p rfl (op_assign (.t 1 rfl)) <| .p rfl (op_assign (.t 1 rfl)) <| .nil _ _) (by kernel_rfl) (fun n1 a w hst => ?_)
  replace hst : St M w0 117 [(13, ti t25.1), (14, tsl rSDiff t25.2), (1, ti at_), (2, ti how_), (3, ti by_), (4, tsl rI picks_), (5, tsl rI raw_)] [] a w := (hst.pick [5, 6, 8, 9, 10, 11, 12])
  refine hK2 _ _ ?_
  try clear hK2 K2
  refine wp_seq_k (fun K3 hK3 => ?_)
  obtain ⟨t33, ht33, h⟩ := bind_some h
  refine wp_reg mixed [] hst (fun _ => .p rfl (op_move (.t 1 rfl)) <| .p rfl (op_move (.t 2 rfl)) <| .p rfl (op_move (.t 4 rfl)) <| .p rfl (op_move (.t 6 rfl)) <| .p rfl (op_move (.t 8 rfl)) <| .p rfl (op_callF call30 ((Bent_ok ht33).ro ro_self) (.cons (.of (.t 3 rfl)) <| .cons (.of (.t 2 rfl)) <| .cons (.of (.t 1 rfl)) <| .cons (.of (.t 0 rfl)) <| .nil)) <| .p rfl (op_buildSl (R := (rSl rSDiff)) (us := [t25.2, t33]) Try.underlying52 tok48 (.cons (.t 5 rfl) <| .cons (.t 0 rfl) <| .nil _) rfl (Nat.le_of_ble_eq_true rfl)) <| .p rfl (op_assign (.t 0 rfl)) <| .nil _ _) (by kernel_rfl) (fun n2 a w hst => ?_)
  replace hst : St M w0 117 [(15, tsl (rSl rSDiff) [t25.2, t33]), (13, ti t25.1), (4, tsl rI picks_), (5, tsl rI raw_)] [] a w := (hst.pick [7, 8, 13, 14])
  refine hK3 _ _ ?_
  try clear hK3 K3
  refine wp_seq_k (fun K4 hK4 => ?_)
  obtain ⟨t36, ht36, h⟩ := bind_some h
  refine wp_reg mixed [v1 1 (fun v0 => own rI 3 t36 v0)] hst (fun _ => .p rfl (op_move (.t 3 rfl)) <| .m [] [0] rfl rfl rfl (op_callF call15 (Take_ok ht36) (.cons (.of (.t 0 rfl)) <| .cons (.of .k) <| .nil)) <| .ud (f := fun v => tv v) 1 rfl [] rfl rfl (op_assign (.t 0 rfl)) <| .nil _ _) (by kernel_rfl) (fun n3 a w hst => ?_)
  replace hst : St M w0 117 [(36, tv (n3 1)), (16, tv (n3 1)), (15, tsl (rSl rSDiff) [t25.2, t33]), (13, ti t25.1), (4, tsl rI picks_)] [own rI 3 t36 (n3 1)] a w := (hst.pick [1, 2, 3, 4, 5])
  refine hK4 _ _ ?_
  try clear hK4 K4
  refine wp_seq_k (fun K6 hK6 => ?_)
  refine wp_seq_k (fun K7 hK7 => ?_)
  refine wp_reg mixed [] hst (fun _ => .p rfl (op_assign .k) <| .nil _ _) (by kernel_rfl) (fun n4 a w hst => ?_)
  replace hst : St M w0 117 [(17, ti (0:Int)), (36, tv (n3 1)), (16, tv (n3 1)), (15, tsl (rSl rSDiff) [t25.2, t33]), (13, ti t25.1), (4, tsl rI picks_)] [own rI 3 t36 (n3 1)] a w := (hst.pick [0, 1, 2, 3, 4, 5])
  refine hK7 _ _ ?_
  try clear hK7 K7
  obtain ⟨e9, he9, h⟩ := bind_some h
  have hJp14 : ∀ (p14 : List Int) a w, p14 = e9 → St M w0 117 [(16, tv (n3 1)), (15, tsl (rSl rSDiff) [t25.2, t33]), (13, ti t25.1), (4, tsl rI picks_)] [own rI 3 p14 (n3 1)] a w → K6 a w := by
    intro p14 a w he hst
    subst he
    refine hK6 _ _ ?_
    try clear hK6 K6
    refine wp_seq_k (fun K15 hK15 => ?_)
    refine wp_seq_k (fun K16 hK16 => ?_)
    refine wp_reg mixed [] hst (fun _ => .p rfl (op_assign .k) <| .nil _ _) (by kernel_rfl) (fun n8 a w hst => ?_)
    replace hst : St M w0 117 [(18, ti (0:Int)), (16, tv (n3 1)), (15, tsl (rSl rSDiff) [t25.2, t33]), (13, ti t25.1), (4, tsl rI picks_)] [own rI 3 p14 (n3 1)] a w := (hst.pick [0, 1, 2, 3, 4])
    refine hK16 _ _ ?_
    try clear hK16 K16
    obtain ⟨e18, he18, h⟩ := bind_some h
    have hJp32 : ∀ (p32 : Unit) a w, (.inl p32) = e18 → St M w0 117 [] [] a w → K15 a w := by
      intro p32 a w he hst
      subst he
      simp only at h
      refine hK15 _ _ ?_
      try clear hK15 K15
      refine wp_seq_k (fun K34 hK34 => ?_)
      obtain ⟨t116, ht116, h⟩ := bind_some h
      refine wp_reg mixed [] hst (fun _ => .p rfl (op_callF call37 (lives14_ok ht116) (.nil)) <| .p rfl (op_assign (.t 0 rfl)) <| .nil _ _) (by kernel_rfl) (fun n17 a w hst => ?_)
      replace hst : St M w0 117 [(12, tb t116)] [] a w := (hst.pick [1])
      refine hK34 _ _ ?_
      try clear hK34 K34
      refine wp_ret ?_
      obtain rfl := Option.some.inj h
      exact ret_st undef [] hpl hst rfl (.tmp (.t 0 rfl) .nil) rfl rfl rfl
    have hJp33 : ∀ (p33 : Bool) a w, (.inr p33) = e18 → St M w0 117 [(12, tb p33)] [] a w → Ret Try.prog Try.f8 M0 [] w0 (fun _ => []) (fun _ => tb r) .ret a w := by
      intro p33 a w he hst
      subst he
      simp only at h
      obtain rfl := Option.some.inj h
      exact ret_st undef [] hpl hst rfl (.tmp (.t 0 rfl) .nil) rfl rfl rfl
    refine wp_block ?_
    refine wp_loopK _ (fun (s17 : Int) a w => St M w0 117 [(18, ti s17), (16, tv (n3 1)), (15, tsl (rSl rSDiff) [t25.2, t33]), (13, ti t25.1), (4, tsl rI picks_)] [own rI 3 p14 (n3 1)] a w) _ _ he18 (hst.pick [0, 1, 2, 3, 4]) ?_
    clear h
    intro s17 o a w K35 hI h ho hK35
    have hst := hI
    clear hI
    refine wp_seq_k (fun K36 hK36 => ?_)
    refine wp_seq_k (fun K37 hK37 => ?_)
    refine wp_reg mixed [] hst (fun _ => .p rfl (op_move (.t 0 rfl)) <| .p rfl (op_lss (.t 0 rfl) .k) <| .nil _ _) (by kernel_rfl) (fun n9 a w hst => ?_)
    replace hst : St M w0 117 [(53, tb (decide (s17 < (2:Int)))), (18, ti s17), (16, tv (n3 1)), (15, tsl (rSl rSDiff) [t25.2, t33]), (13, ti t25.1), (4, tsl rI picks_)] [own rI 3 p14 (n3 1)] a w := (hst.pick [1, 2, 3, 4, 5, 6])
    refine hK37 _ _ ?_
    try clear hK37 K37
    refine wp_test 0 hst rfl (fun b48 => ?_) (fun b48 => ?_)
    · replace h := ite_t b48 h
      refine wp_skip ?_
      refine hK36 _ _ ?_
      try clear hK36 K36
      refine wp_seq_k (fun K38 hK38 => ?_)
      refine wp_block ?_
      refine wp_seq_k (fun K39 hK39 => ?_)
      obtain ⟨t60, ht60, h⟩ := bind_some h
      obtain ⟨t62, ht62, h⟩ := bind_some h
      obtain ⟨t64, ht64, h⟩ := bind_some h
      refine wp_reg mixed [] hst (fun _ => .p rfl (op_move (.t 4 rfl)) <| .p rfl (op_move (.t 4 rfl)) <| .p rfl (op_move (.t 3 rfl)) <| .p rfl (op_index Try.underlying52 tok48 (.t 1 rfl) (.t 0 rfl) ht60) <| .p rfl (op_load tok48 (.t 0 rfl)) <| .p rfl (op_callF call32 ((own14_ok ht62).ro ro_self) (.cons (.of (.t 0 rfl)) <| .nil)) <| .p rfl (op_move (.t 11 rfl)) <| .p rfl (op_callF call40 (Fill_ok ht64) (.cons (.of (.t 6 rfl)) <| .cons (.of (.t 1 rfl)) <| .cons (.of (.t 0 rfl)) <| .nil)) <| .p rfl (op_move (.t 0 rfl)) <| .p rfl (op_extract (.t 0 rfl) rfl) <| .p rfl (op_extract (.t 1 rfl) rfl) <| .p rfl (op_assign (.t 1 rfl)) <| .p rfl (op_assign (.t 1 rfl)) <| .nil _ _) (by kernel_rfl) (fun n11 a w hst => ?_)
      replace hst : St M w0 117 [(19, tsl rI t64.1), (20, ti t64.2), (18, ti s17), (16, tv (n3 1)), (15, tsl (rSl rSDiff) [t25.2, t33]), (13, ti t25.1), (4, tsl rI picks_)] [own rI 3 p14 (n3 1)] a w := (hst.pick [11, 12, 14, 15, 16, 17, 18])
      refine hK39 _ _ ?_
      try clear hK39 K39
      refine wp_seq_k (fun K40 hK40 => ?_)
      obtain ⟨t71, ht71, h⟩ := bind_some h
      obtain ⟨t74, ht74, h⟩ := bind_some h
      refine wp_reg mixed [] hst (fun _ => .p rfl (op_move (.t 5 rfl)) <| .p rfl (op_move (.t 5 rfl)) <| .p rfl (op_move (.t 4 rfl)) <| .p rfl (op_index Try.underlying52 tok48 (.t 1 rfl) (.t 0 rfl) ht71) <| .p rfl (op_load tok48 (.t 0 rfl)) <| .p rfl (op_move (.t 11 rfl)) <| .p rfl (op_callF call41 (FillR_ok ht74) (.cons (.of (.t 5 rfl)) <| .cons (.of (.t 1 rfl)) <| .cons (.of (.t 0 rfl)) <| .nil)) <| .p rfl (op_move (.t 0 rfl)) <| .p rfl (op_extract (.t 0 rfl) rfl) <| .p rfl (op_extract (.t 1 rfl) rfl) <| .p rfl (op_assign (.t 1 rfl)) <| .p rfl (op_assign (.t 1 rfl)) <| .nil _ _) (by kernel_rfl) (fun n12 a w hst => ?_)
      replace hst : St M w0 117 [(21, tsl rI t74.1), (22, ti t74.2), (19, tsl rI t64.1), (20, ti t64.2), (18, ti s17), (16, tv (n3 1)), (15, tsl (rSl rSDiff) [t25.2, t33]), (13, ti t25.1), (4, tsl rI picks_)] [own rI 3 p14 (n3 1)] a w := (hst.pick [10, 11, 12, 13, 14, 15, 16, 17, 18])
      refine hK40 _ _ ?_
      try clear hK40 K40
      refine wp_seq_k (fun K41 hK41 => ?_)
      refine wp_seq_k (fun K42 hK42 => ?_)
      obtain ⟨t83, ht83, h⟩ := bind_some h
      refine wp_reg mixed [] hst (fun _ => .p rfl (op_move (.t 3 rfl)) <| .p rfl (op_move (.t 2 rfl)) <| .p rfl (op_neq (.t 1 rfl) (.t 0 rfl)) <| .p rfl (op_move (.t 0 rfl)) <| .g rfl rfl (.b 0 rfl) (fun _ => op_move (.t 6 rfl)) <| .g rfl rfl (.b 1 rfl) (fun _ => op_move (.t 5 rfl)) <| .g rfl rfl (.b 2 rfl) (fun hc => op_callF call18 (SameInts_ok (opt_t ht83 hc)) (.cons (.of (.cond (.t 1 rfl) hc)) <| .cons (.of (.cond (.t 0 rfl) hc)) <| .nil)) <| .g rfl rfl (.b 3 rfl) (fun hc => op_not (.cond (.t 0 rfl) hc)) <| .p rfl (op_or (.t 4 rfl) (fun hp => (.cond (.t 0 rfl) (beqF hp)))) <| .nil _ _) (by kernel_rfl) (fun n13 a w hst => ?_)
      replace hst : St M w0 117 [(85, tb ((t64.2 != t74.2) || (!t83))), (19, tsl rI t64.1), (18, ti s17), (16, tv (n3 1)), (15, tsl (rSl rSDiff) [t25.2, t33]), (13, ti t25.1), (4, tsl rI picks_)] [own rI 3 p14 (n3 1)] a w := (hst.pick [8, 11, 13, 14, 15, 16, 17])
      refine hK42 _ _ ?_
      try clear hK42 K42
      refine wp_test 0 hst rfl (fun b47 => ?_) (fun b47 => ?_)
      · replace h := ite_t b47 h
        refine wp_seq_k (fun K43 hK43 => ?_)
        refine wp_reg mixed [] hst (fun _ => .p rfl (op_assign .k) <| .nil _ _) (by kernel_rfl) (fun n14 a w hst => ?_)
        replace hst : St M w0 117 [(12, tb false), (16, tv (n3 1))] [own rI 3 p14 (n3 1)] a w := (hst.pick [0, 4])
        refine hK43 _ _ ?_
        try clear hK43 K43
        refine wp_ret ?_
        exact hJp33 _ _ _ (ho _ (Option.some.inj h).symm) ((hst.pick [0]).selA [] rfl)
      · replace h := ite_f b47 h
        refine wp_skip ?_
        refine hK41 _ _ ?_
        try clear hK41 K41
        refine wp_seq_k (fun K44 hK44 => ?_)
        obtain ⟨t88, ht88, h⟩ := bind_some h
        obtain ⟨t90, ht90, h⟩ := bind_some h
        obtain ⟨t92, ht92, h⟩ := bind_some h
        obtain ⟨t95, ht95, h⟩ := bind_some h
        obtain ⟨t98, ht98, h⟩ := bind_some h
        obtain ⟨t103, ht103, h⟩ := bind_some h
        obtain ⟨t105, ht105, h⟩ := bind_some h
        obtain ⟨t107, ht107, h⟩ := bind_some h
        obtain ⟨t110, ht110, h⟩ := bind_some h
        obtain ⟨t113, ht113, h⟩ := bind_some h
        refine wp_reg mixed [] hst (fun _ => .p rfl (op_move (.t 4 rfl)) <| .p rfl (op_move (.t 3 rfl)) <| .p rfl (op_index Try.underlying52 tok48 (.t 1 rfl) (.t 0 rfl) ht88) <| .p rfl (op_load tok48 (.t 0 rfl)) <| .p rfl (op_callF call32 ((own14_ok ht90).ro ro_self) (.cons (.of (.t 0 rfl)) <| .nil)) <| .p rfl (op_move (.t 6 rfl)) <| .p rfl (op_callF call42 (Holds_ok ht92) (.cons (.of (.t 1 rfl)) <| .cons (.of (.t 0 rfl)) <| .nil)) <| .p rfl (op_move (.t 11 rfl)) <| .p rfl (op_move (.t 10 rfl)) <| .p rfl (op_index Try.underlying52 tok48 (.t 1 rfl) (.t 0 rfl) ht95) <| .p rfl (op_load tok48 (.t 0 rfl)) <| .p rfl (op_move (.t 12 rfl)) <| .p rfl (op_callF call43 (HoldsR_ok ht98) (.cons (.of (.t 1 rfl)) <| .cons (.of (.t 0 rfl)) <| .nil)) <| .p rfl (op_neq (.t 6 rfl) (.t 0 rfl)) <| .p rfl (op_move (.t 0 rfl)) <| .g rfl rfl (.b 0 rfl) (fun _ => op_move (.t 19 rfl)) <| .g rfl rfl (.b 1 rfl) (fun _ => op_move (.t 18 rfl)) <| .g rfl rfl (.b 2 rfl) (fun hc => op_index Try.underlying52 tok48 (.cond (.t 1 rfl) hc) (.cond (.t 0 rfl) hc) (opt_t ht103 hc)) <| .g rfl rfl (.b 3 rfl) (fun hc => op_load tok48 (.cond (.t 0 rfl) hc)) <| .g rfl rfl (.b 4 rfl) (fun hc => op_callF call32 ((own14_ok (opt_t ht105 hc)).ro ro_self) (.cons (.of (.cond (.t 0 rfl) hc)) <| .nil)) <| .g rfl rfl (.b 5 rfl) (fun _ => op_move (.t 23 rfl)) <| .gu [0] rfl rfl rfl (.b 6 rfl) (fun hc => op_callFU [own rI 3 p14 (n3 1)] call42 (Holds_ok (opt_t ht107 hc)) (.cons (.of (.cond (.t 1 rfl) hc)) <| .cons (.own (.cond (.t 0 rfl) hc) (.head _)) <| .nil) (fun _ => flat_tv) (fun _ => flatN0 (x := undef))) <| .g rfl rfl (.b 7 rfl) (fun _ => op_move (.t 26 rfl)) <| .g rfl rfl (.b 8 rfl) (fun _ => op_move (.t 25 rfl)) <| .g rfl rfl (.b 9 rfl) (fun hc => op_index Try.underlying52 tok48 (.cond (.t 1 rfl) hc) (.cond (.t 0 rfl) hc) (opt_t ht110 hc)) <| .g rfl rfl (.b 10 rfl) (fun hc => op_load tok48 (.cond (.t 0 rfl) hc)) <| .g rfl rfl (.b 11 rfl) (fun _ => op_move (.t 29 rfl)) <| .gu [0] rfl rfl rfl (.b 12 rfl) (fun hc => op_callFU [own rI 3 p14 (n3 1)] call43 (HoldsR_ok (opt_t ht113 hc)) (.cons (.of (.cond (.t 1 rfl) hc)) <| .cons (.own (.cond (.t 0 rfl) hc) (.head _)) <| .nil) (fun _ => flat_tv) (fun _ => flatN0 (x := undef))) <| .g rfl rfl (.b 13 rfl) (fun hc => op_neq (.cond (.t 6 rfl) hc) (.cond (.t 0 rfl) hc)) <| .p rfl (op_or (.t 14 rfl) (fun hp => (.cond (.t 0 rfl) (beqF hp)))) <| .nil _ _) (by kernel_rfl) (fun n15 a w hst => ?_)
        replace hst : St M w0 117 [(115, tb ((t92 != t98) || (t107 != t113))), (18, ti s17), (16, tv (n3 1)), (15, tsl (rSl rSDiff) [t25.2, t33]), (13, ti t25.1), (4, tsl rI picks_)] [own rI 3 p14 (n3 1)] a w := (hst.pick [29, 32, 33, 34, 35, 36])
        refine hK44 _ _ ?_
        try clear hK44 K44
        refine wp_test 0 hst rfl (fun b46 => ?_) (fun b46 => ?_)
        · replace h := ite_t b46 h
          refine wp_seq_k (fun K45 hK45 => ?_)
          refine wp_reg mixed [] hst (fun _ => .p rfl (op_assign .k) <| .nil _ _) (by kernel_rfl) (fun n16 a w hst => ?_)
          replace hst : St M w0 117 [(12, tb false), (16, tv (n3 1))] [own rI 3 p14 (n3 1)] a w := (hst.pick [0, 3])
          refine hK45 _ _ ?_
          try clear hK45 K45
          refine wp_ret ?_
          exact hJp33 _ _ _ (ho _ (Option.some.inj h).symm) ((hst.pick [0]).selA [] rfl)
        · replace h := ite_f b46 h
          refine wp_skip ?_
          refine hK38 _ _ ?_
          try clear hK38 K38
          refine wp_reg mixed [] hst (fun _ => .p rfl (op_move (.t 1 rfl)) <| .p rfl (op_add (.t 0 rfl) .k) <| .p rfl (op_assign (.t 0 rfl)) <| .nil _ _) (by kernel_rfl) (fun n10 a w hst => ?_)
          replace hst : St M w0 117 [(18, ti (IntKind.i64.wrap (s17 + (1:Int)))), (16, tv (n3 1)), (15, tsl (rSl rSDiff) [t25.2, t33]), (13, ti t25.1), (4, tsl rI picks_)] [own rI 3 p14 (n3 1)] a w := (hst.pick [2, 4, 5, 6, 7])
          exact hK35 _ _ _ (Option.some.inj h).symm (hst.pick [0, 1, 2, 3, 4])
    · replace h := ite_f b48 h
      refine wp_exit ?_
      exact hJp32 _ _ _ (ho _ (Option.some.inj h).symm) ((hst.pick []).selA [] rfl)
  refine wp_block ?_
  refine wp_loopK _ (fun (s8 : Int × List Int) a w => St M w0 117 [(17, ti s8.1), (16, tv (n3 1)), (15, tsl (rSl rSDiff) [t25.2, t33]), (13, ti t25.1), (4, tsl rI picks_)] [own rI 3 s8.2 (n3 1)] a w) _ _ he9 (hst.pick [0, 2, 3, 4, 5]) ?_
  clear h
  intro s8 o a w K49 hI h ho hK49
  have hst := hI
  clear hI
  refine wp_seq_k (fun K50 hK50 => ?_)
  refine wp_seq_k (fun K51 hK51 => ?_)
  refine wp_reg mixed [] hst (fun _ => .p rfl (op_move (.t 0 rfl)) <| .p rfl (op_move (.t 2 rfl)) <| .u [0] rfl rfl (op_lenO Try.underlying22 (.t 0 rfl)) <| .p rfl (op_lss (.t 2 rfl) (.t 0 rfl)) <| .nil _ _) (by kernel_rfl) (fun n5 a w hst => ?_)
  replace hst : St M w0 117 [(38, tv (n3 1)), (40, tb (decide (s8.1 < (s8.2.length : Int)))), (17, ti s8.1), (16, tv (n3 1)), (15, tsl (rSl rSDiff) [t25.2, t33]), (13, ti t25.1), (4, tsl rI picks_)] [own rI 3 s8.2 (n3 1)] a w := (hst.pick [1, 3, 4, 5, 6, 7, 8])
  refine hK51 _ _ ?_
  try clear hK51 K51
  refine wp_test 1 hst rfl (fun b53 => ?_) (fun b53 => ?_)
  · replace h := ite_t b53 h
    refine wp_skip ?_
    refine hK50 _ _ ?_
    try clear hK50 K50
    refine wp_seq_k (fun K52 hK52 => ?_)
    refine wp_block ?_
    obtain ⟨t47, ht47, h⟩ := bind_some h
    obtain ⟨t49, ht49, h⟩ := bind_some h
    obtain ⟨t51s, ht51s, h⟩ := bind_some h
    refine wp_reg mixed [v0 (own rI 3 t51s (n3 1))] hst (fun _ => .p rfl (op_move (.t 3 rfl)) <| .p rfl (op_move (.t 3 rfl)) <| .p rfl (op_move (.t 5 rfl)) <| .p rfl (op_move (.t 5 rfl)) <| .u [0] rfl rfl (op_indexOi Try.underlying22 tok3 (.t 1 rfl) (.t 0 rfl) ht47) <| .u [0] rfl rfl (op_loadO tok3 (.t 0 rfl) ht47) <| .p rfl (op_callF call13 (Around_ok ht49) (.cons (.of (.t 0 rfl)) <| .cons (.of .k) <| .nil)) <| .p rfl (op_sub (.t 0 rfl) .k) <| .u [0] rfl rfl (op_indexOs Try.underlying22 tok3 (.t 7 rfl) (.t 6 rfl) ht51s) <| .e [] [0] [1] rfl rfl rfl rfl (op_storeO tok3 (.t 0 rfl) (.t 1 rfl) ht51s) <| .nil _ _) (by kernel_rfl) (fun n7 a w hst => ?_)
    replace hst : St M w0 117 [(43, tv (n3 1)), (45, tv (n3 1)), (38, tv (n3 1)), (17, ti s8.1), (16, tv (n3 1)), (15, tsl (rSl rSDiff) [t25.2, t33]), (13, ti t25.1), (4, tsl rI picks_)] [own rI 3 t51s (n3 1)] a w := (hst.pick [0, 2, 9, 11, 12, 13, 14, 15])
    refine hK52 _ _ ?_
    try clear hK52 K52
    refine wp_reg mixed [] hst (fun _ => .p rfl (op_move (.t 3 rfl)) <| .p rfl (op_add (.t 0 rfl) .k) <| .p rfl (op_assign (.t 0 rfl)) <| .nil _ _) (by kernel_rfl) (fun n6 a w hst => ?_)
    replace hst : St M w0 117 [(17, ti (IntKind.i64.wrap (s8.1 + (1:Int)))), (43, tv (n3 1)), (45, tv (n3 1)), (38, tv (n3 1)), (16, tv (n3 1)), (15, tsl (rSl rSDiff) [t25.2, t33]), (13, ti t25.1), (4, tsl rI picks_)] [own rI 3 t51s (n3 1)] a w := (hst.pick [2, 3, 4, 5, 6, 7, 8, 9])
    exact hK49 _ _ _ (Option.some.inj h).symm (hst.pick [0, 4, 5, 6, 7])
  · replace h := ite_f b53 h
    refine wp_exit ?_
    exact hJp14 _ _ _ (ho _ (Option.some.inj h).symm) (hst.pick [3, 4, 5, 6])


end Go.Proofs.Ytjniiejgccdhiaa
