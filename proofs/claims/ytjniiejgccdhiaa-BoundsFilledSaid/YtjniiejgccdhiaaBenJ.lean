/- Go functions as Lean functions, and the proofs that they compute them, written by a program. No condition. -/
import Derived.Test.YtjniiejgccdhiaaBenF
namespace Go.Proofs.Ytjniiejgccdhiaa
open Go.Sim

/- diorama/dioramalaw14.BoundsFilled -/
noncomputable def fBoundsFilled (l_ : (List Int)) (picks_ : (List Int)) : Option (Bool) := (fMade14 l_).bind fun t27 => (fown14 t27.2).bind fun t33 => (fFill t27.1 t33 picks_).bind fun t35 => (if (t35.2 != (0:Int)) = true then (opt (((t35.2 == (14:Int)) || (t35.2 == (5:Int))) == true) (flives14) default).bind fun t47 => (some (((t35.2 == (14:Int)) || (t35.2 == (5:Int))) && t47)) else (opt (((t35.1.length : Int) != t27.1) == false) (fown14 t27.2) default).bind fun t55 => (opt (((t35.1.length : Int) != t27.1) == false) (fHolds t55 t35.1) default).bind fun t57 => (if (((t35.1.length : Int) != t27.1) || (t57 != (-1:Int))) = true then (some false) else (tailrec (fun (s14 : Int × List SDiff) => ((if (decide (s14.1 < (t27.2.length : Int))) = true then (idx t27.2 s14.1).bind fun t68 => (idx t27.2 s14.1).bind fun t73 => (idx t27.2 s14.1).bind fun t78 => ((if (decide (((SDiff.mk (t68).A (t73).B (t78).N)).A ≥ (0:Int))) = true then (some { (SDiff.mk (t68).A (t73).B (t78).N) with A := (IntKind.i64.wrap ((IntKind.i64.wrap (t27.1 - (1:Int))) - ((SDiff.mk (t68).A (t73).B (t78).N)).A)) }) else (some (SDiff.mk (t68).A (t73).B (t78).N)))).bind fun (p92 : SDiff) => ((if (decide ((p92).B ≥ (0:Int))) = true then (some { p92 with B := (IntKind.i64.wrap ((IntKind.i64.wrap (t27.1 - (1:Int))) - (p92).B)) }) else (some p92))).bind fun (p96 : SDiff) => (rm (s14.2.length + [p96].length)).bind fun _ => (some (.inl ((IntKind.i64.wrap (s14.1 + (1:Int))), (s14.2 ++ [p96])))) else (some (.inr s14.2))) : Option ((Int × List SDiff) ⊕ ((List SDiff))))) ((0:Int), ([] : List SDiff))).bind fun (p33 : (List SDiff)) => (fFill t27.1 p33 picks_).bind fun t108 => (fown14 t27.2).bind fun t114 => (fClose t27.1 t114).bind fun t115 => (if (t108.2 != (0:Int)) = true then (opt ((t108.2 == (5:Int)) == true) (flives14) default).bind fun t123 => (some ((t108.2 == (5:Int)) && t123)) else (if ((t115.2 != (0:Int)) || ((t108.1.length : Int) != t27.1)) = true then (some false) else (tailrec (fun (s49 : Int × List Int × List Int) => ((if (decide (s49.1 < t27.1)) = true then (idx t108.1 (IntKind.i64.wrap ((IntKind.i64.wrap (t27.1 - (1:Int))) - s49.1))).bind fun t143 => (fRange t115.1 s49.2.2).bind fun t148 => (if (((t148.2.2 != (0:Int)) || (decide (t143 < t148.1))) || (decide (t143 > t148.2.1))) = true then (some (.inr (.inr false))) else (rm (s49.2.1.length + [(IntKind.i64.wrap (t143 - t148.1))].length)).bind fun _ => (rm (s49.2.2.length + [t143].length)).bind fun _ => (some (.inl ((IntKind.i64.wrap (s49.1 + (1:Int))), (s49.2.1 ++ [(IntKind.i64.wrap (t143 - t148.1))]), (s49.2.2 ++ [t143]))))) else (some (.inr (.inl (s49.2.1, s49.2.2))))) : Option ((Int × List Int × List Int) ⊕ ((List Int × List Int) ⊕ (Bool))))) ((0:Int), ([] : List Int), ([] : List Int))).bind fun (e52 : (List Int × List Int) ⊕ (Bool)) => (match e52 with | .inl p64 => (fown14 t27.2).bind fun t177 => (fFill t27.1 t177 p64.1).bind fun t179 => (opt ((t179.2 == (0:Int)) == true) (fSameInts t179.1 p64.2) default).bind fun t187 => (opt (((t179.2 == (0:Int)) && t187) == true) (fown14 t27.2) default).bind fun t191 => (opt (((t179.2 == (0:Int)) && t187) == true) (fHolds t191 p64.2) default).bind fun t193 => (opt ((((t179.2 == (0:Int)) && t187) && (t193 == (-1:Int))) == true) (flives14) default).bind fun t197 => (some ((((t179.2 == (0:Int)) && t187) && (t193 == (-1:Int))) && t197)) | .inr p67 => (some p67))))))
set_option maxRecDepth 100000 in
set_option maxHeartbeats 4000000 in
theorem BoundsFilled_ok {l_ : (List Int)} {picks_ : (List Int)} {r : Bool} (h : fBoundsFilled l_ picks_ = some r) : FnOk Try.prog 9 [tsl rI l_, tsl rI picks_] [] (fun _ => []) (fun _ => tb r) := by
  unfold fBoundsFilled at h
  refine FnOk.enter Try.func9 rfl Try.ntmps9 (Nat.le_of_ble_eq_true rfl) (fun M0 M w0 a hpl hst => ?_)
  replace hst : St M w0 199 [(0, tsl rI l_), (1, tsl rI picks_)] [] a w0 := hst
  refine wp_seq_k (fun K1 hK1 => ?_)
  refine wp_reg mixed [] hst (fun _ => .p rfl (op_assign .k) <| .nil _ _) (by kernel_rfl) (fun n0 a w hst => ?_)
  replace hst : St M w0 199 [(0, tsl rI l_), (1, tsl rI picks_)] [] a w := (hst.pick [1, 2])
  refine hK1 _ _ ?_
  try clear hK1 K1
  refine wp_seq_k (fun K2 hK2 => ?_)
  obtain ⟨t27, ht27, h⟩ := bind_some h
  refine wp_reg mixed [] hst (fun _ => .p rfl (op_move (.t 0 rfl)) <| .p rfl (op_callF call29 ((Made14_ok ht27).ro ro_tup1) (.cons (.of (.t 0 rfl)) <| .nil)) <| .p rfl (op_move (.t 0 rfl)) <| .p rfl (op_extract (.t 0 rfl) rfl) <| .p rfl (op_extract (.t 1 rfl) rfl) <| .p rfl (op_assign (.t 1 rfl)) <| .p rfl (op_assign (.t 1 rfl)) <| .nil _ _) (by kernel_rfl) (fun n1 a w hst => ?_)
  replace hst : St M w0 199 [(5, ti t27.1), (6, tsl rSDiff t27.2), (1, tsl rI picks_)] [] a w := (hst.pick [5, 6, 8])
  refine hK2 _ _ ?_
  try clear hK2 K2
  refine wp_seq_k (fun K3 hK3 => ?_)
  obtain ⟨t33, ht33, h⟩ := bind_some h
  obtain ⟨t35, ht35, h⟩ := bind_some h
  refine wp_reg mixed [] hst (fun _ => .p rfl (op_move (.t 0 rfl)) <| .p rfl (op_move (.t 2 rfl)) <| .p rfl (op_callF call32 ((own14_ok ht33).ro ro_self) (.cons (.of (.t 0 rfl)) <| .nil)) <| .p rfl (op_move (.t 5 rfl)) <| .p rfl (op_callF call40 (Fill_ok ht35) (.cons (.of (.t 3 rfl)) <| .cons (.of (.t 1 rfl)) <| .cons (.of (.t 0 rfl)) <| .nil)) <| .p rfl (op_move (.t 0 rfl)) <| .p rfl (op_extract (.t 0 rfl) rfl) <| .p rfl (op_extract (.t 1 rfl) rfl) <| .p rfl (op_assign (.t 1 rfl)) <| .p rfl (op_assign (.t 1 rfl)) <| .nil _ _) (by kernel_rfl) (fun n2 a w hst => ?_)
  replace hst : St M w0 199 [(7, tsl rI t35.1), (8, ti t35.2), (5, ti t27.1), (6, tsl rSDiff t27.2), (1, tsl rI picks_)] [] a w := (hst.pick [8, 9, 10, 11, 12])
  refine hK3 _ _ ?_
  try clear hK3 K3
  refine wp_seq_k (fun K4 hK4 => ?_)
  refine wp_seq_k (fun K5 hK5 => ?_)
  refine wp_reg mixed [] hst (fun _ => .p rfl (op_move (.t 1 rfl)) <| .p rfl (op_neq (.t 0 rfl) .k) <| .nil _ _) (by kernel_rfl) (fun n3 a w hst => ?_)
  replace hst : St M w0 199 [(39, tb (t35.2 != (0:Int))), (7, tsl rI t35.1), (8, ti t35.2), (5, ti t27.1), (6, tsl rSDiff t27.2), (1, tsl rI picks_)] [] a w := (hst.pick [1, 2, 3, 4, 5, 6])
  refine hK5 _ _ ?_
  try clear hK5 K5
  refine wp_test 0 hst rfl (fun b102 => ?_) (fun b102 => ?_)
  · replace h := ite_t b102 h
    refine wp_seq_k (fun K6 hK6 => ?_)
    obtain ⟨t47, ht47, h⟩ := bind_some h
    refine wp_reg mixed [] hst (fun _ => .p rfl (op_move (.t 2 rfl)) <| .p rfl (op_eql (.t 0 rfl) .k) <| .p rfl (op_move (.t 0 rfl)) <| .g rfl rfl (.b 0 rfl) (fun _ => op_move (.t 5 rfl)) <| .g rfl rfl (.b 1 rfl) (fun hc => op_eql (.cond (.t 0 rfl) hc) .k) <| .p rfl (op_or (.t 2 rfl) (fun hp => (.cond (.t 0 rfl) (beqF hp)))) <| .p rfl (op_move (.t 0 rfl)) <| .g rfl rfl (.b 0 rfl) (fun hc => op_callF call37 (lives14_ok (opt_t ht47 hc)) (.nil)) <| .p rfl (op_and (.t 1 rfl) (fun hp => (.cond (.t 0 rfl) (beqT hp)))) <| .p rfl (op_assign (.t 0 rfl)) <| .nil _ _) (by kernel_rfl) (fun n4 a w hst => ?_)
    replace hst : St M w0 199 [(4, tb (((t35.2 == (14:Int)) || (t35.2 == (5:Int))) && t47))] [] a w := (hst.pick [9])
    refine hK6 _ _ ?_
    try clear hK6 K6
    refine wp_ret ?_
    obtain rfl := Option.some.inj h
    exact ret_st undef [] hpl hst rfl (.tmp (.t 0 rfl) .nil) rfl rfl rfl
  · replace h := ite_f b102 h
    refine wp_skip ?_
    refine hK4 _ _ ?_
    try clear hK4 K4
    refine wp_seq_k (fun K7 hK7 => ?_)
    refine wp_seq_k (fun K8 hK8 => ?_)
    obtain ⟨t55, ht55, h⟩ := bind_some h
    obtain ⟨t57, ht57, h⟩ := bind_some h
    refine wp_reg mixed [] hst (fun _ => .p rfl (op_move (.t 1 rfl)) <| .p rfl (op_len Try.underlying22 (.t 0 rfl)) <| .p rfl (op_move (.t 5 rfl)) <| .p rfl (op_neq (.t 1 rfl) (.t 0 rfl)) <| .p rfl (op_move (.t 0 rfl)) <| .g rfl rfl (.b 0 rfl) (fun _ => op_move (.t 9 rfl)) <| .g rfl rfl (.b 1 rfl) (fun hc => op_callF call32 ((own14_ok (opt_t ht55 hc)).ro ro_self) (.cons (.of (.cond (.t 0 rfl) hc)) <| .nil)) <| .g rfl rfl (.b 2 rfl) (fun _ => op_move (.t 8 rfl)) <| .g rfl rfl (.b 3 rfl) (fun hc => op_callF call42 (Holds_ok (opt_t ht57 hc)) (.cons (.of (.cond (.t 1 rfl) hc)) <| .cons (.of (.cond (.t 0 rfl) hc)) <| .nil)) <| .g rfl rfl (.b 4 rfl) (fun hc => op_neq (.cond (.t 0 rfl) hc) .k) <| .p rfl (op_or (.t 5 rfl) (fun hp => (.cond (.t 0 rfl) (beqF hp)))) <| .nil _ _) (by kernel_rfl) (fun n5 a w hst => ?_)
    replace hst : St M w0 199 [(59, tb (((t35.1.length : Int) != t27.1) || (t57 != (-1:Int)))), (5, ti t27.1), (6, tsl rSDiff t27.2), (1, tsl rI picks_)] [] a w := (hst.pick [10, 14, 15, 16])
    refine hK8 _ _ ?_
    try clear hK8 K8
    refine wp_test 0 hst rfl (fun b101 => ?_) (fun b101 => ?_)
    · replace h := ite_t b101 h
      refine wp_seq_k (fun K9 hK9 => ?_)
      refine wp_reg mixed [] hst (fun _ => .p rfl (op_assign .k) <| .nil _ _) (by kernel_rfl) (fun n6 a w hst => ?_)
      replace hst : St M w0 199 [(4, tb false)] [] a w := (hst.pick [0])
      refine hK9 _ _ ?_
      try clear hK9 K9
      refine wp_ret ?_
      obtain rfl := Option.some.inj h
      exact ret_st undef [] hpl hst rfl (.tmp (.t 0 rfl) .nil) rfl rfl rfl
    · replace h := ite_f b101 h
      refine wp_skip ?_
      refine hK7 _ _ ?_
      try clear hK7 K7
      refine wp_seq_k (fun K10 hK10 => ?_)
      refine wp_reg mixed [] hst (fun _ => .p rfl (op_assign .k) <| .nil _ _) (by kernel_rfl) (fun n7 a w hst => ?_)
      replace hst : St M w0 199 [(9, tv (.slice none 0 0)), (5, ti t27.1), (6, tsl rSDiff t27.2), (1, tsl rI picks_)] [own rSDiff 72 ([] : List SDiff) (.slice none 0 0)] a w := ((hst.pick [0, 2, 3, 4]).nil (rSDiff) 72)
      refine hK10 _ _ ?_
      try clear hK10 K10
      refine wp_seq_k (fun K12 hK12 => ?_)
      refine wp_seq_k (fun K13 hK13 => ?_)
      refine wp_reg mixed [] hst (fun _ => .p rfl (op_assign .k) <| .nil _ _) (by kernel_rfl) (fun n8 a w hst => ?_)
      replace hst : St M w0 199 [(10, ti (0:Int)), (9, tv (.slice none 0 0)), (5, ti t27.1), (6, tsl rSDiff t27.2), (1, tsl rI picks_)] [own rSDiff 72 ([] : List SDiff) (.slice none 0 0)] a w := (hst.pick [0, 1, 2, 3, 4])
      refine hK13 _ _ ?_
      try clear hK13 K13
      obtain ⟨e16, he16, h⟩ := bind_some h
      have hJp33 : ∀ (p33 : List SDiff) (v34 : Value) a w, p33 = e16 → St M w0 199 [(9, tv v34), (5, ti t27.1), (6, tsl rSDiff t27.2), (1, tsl rI picks_)] [own rSDiff 72 p33 v34] a w → K12 a w := by
        intro p33 v34 a w he hst
        subst he
        refine hK12 _ _ ?_
        try clear hK12 K12
        refine wp_seq_k (fun K35 hK35 => ?_)
        replace hst : St M w0 199 [(9, tsl rSDiff p33), (5, ti t27.1), (6, tsl rSDiff t27.2), (1, tsl rI picks_)] [] a w := ((hst.shareO 0 rfl).pick [0, 2, 3, 4])
        obtain ⟨t108, ht108, h⟩ := bind_some h
        refine wp_reg mixed [] hst (fun _ => .p rfl (op_move (.t 1 rfl)) <| .p rfl (op_move (.t 1 rfl)) <| .p rfl (op_move (.t 5 rfl)) <| .p rfl (op_callF call40 (Fill_ok ht108) (.cons (.of (.t 2 rfl)) <| .cons (.of (.t 1 rfl)) <| .cons (.of (.t 0 rfl)) <| .nil)) <| .p rfl (op_move (.t 0 rfl)) <| .p rfl (op_extract (.t 0 rfl) rfl) <| .p rfl (op_extract (.t 1 rfl) rfl) <| .p rfl (op_assign (.t 1 rfl)) <| .p rfl (op_assign (.t 1 rfl)) <| .nil _ _) (by kernel_rfl) (fun n17 a w hst => ?_)
        replace hst : St M w0 199 [(12, tsl rI t108.1), (13, ti t108.2), (5, ti t27.1), (6, tsl rSDiff t27.2)] [] a w := (hst.pick [7, 8, 10, 11])
        refine hK35 _ _ ?_
        try clear hK35 K35
        refine wp_seq_k (fun K36 hK36 => ?_)
        obtain ⟨t114, ht114, h⟩ := bind_some h
        obtain ⟨t115, ht115, h⟩ := bind_some h
        refine wp_reg mixed [] hst (fun _ => .p rfl (op_move (.t 2 rfl)) <| .p rfl (op_move (.t 4 rfl)) <| .p rfl (op_callF call32 ((own14_ok ht114).ro ro_self) (.cons (.of (.t 0 rfl)) <| .nil)) <| .p rfl (op_callF call31 (Close_ok ht115) (.cons (.of (.t 2 rfl)) <| .cons (.of (.t 0 rfl)) <| .nil)) <| .p rfl (op_move (.t 0 rfl)) <| .p rfl (op_extract (.t 0 rfl) rfl) <| .p rfl (op_extract (.t 1 rfl) rfl) <| .p rfl (op_assign (.t 1 rfl)) <| .p rfl (op_assign (.t 1 rfl)) <| .nil _ _) (by kernel_rfl) (fun n18 a w hst => ?_)
        replace hst : St M w0 199 [(14, tsl (rSl rI) t115.1), (15, ti t115.2), (12, tsl rI t108.1), (13, ti t108.2), (5, ti t27.1), (6, tsl rSDiff t27.2)] [] a w := (hst.pick [7, 8, 9, 10, 11, 12])
        refine hK36 _ _ ?_
        try clear hK36 K36
        refine wp_seq_k (fun K37 hK37 => ?_)
        refine wp_seq_k (fun K38 hK38 => ?_)
        refine wp_reg mixed [] hst (fun _ => .p rfl (op_move (.t 3 rfl)) <| .p rfl (op_neq (.t 0 rfl) .k) <| .nil _ _) (by kernel_rfl) (fun n19 a w hst => ?_)
        replace hst : St M w0 199 [(119, tb (t108.2 != (0:Int))), (14, tsl (rSl rI) t115.1), (15, ti t115.2), (12, tsl rI t108.1), (13, ti t108.2), (5, ti t27.1), (6, tsl rSDiff t27.2)] [] a w := (hst.pick [1, 2, 3, 4, 5, 6, 7])
        refine hK38 _ _ ?_
        try clear hK38 K38
        refine wp_test 0 hst rfl (fun b83 => ?_) (fun b83 => ?_)
        · replace h := ite_t b83 h
          refine wp_seq_k (fun K39 hK39 => ?_)
          obtain ⟨t123, ht123, h⟩ := bind_some h
          refine wp_reg mixed [] hst (fun _ => .p rfl (op_move (.t 4 rfl)) <| .p rfl (op_eql (.t 0 rfl) .k) <| .p rfl (op_move (.t 0 rfl)) <| .g rfl rfl (.b 0 rfl) (fun hc => op_callF call37 (lives14_ok (opt_t ht123 hc)) (.nil)) <| .p rfl (op_and (.t 1 rfl) (fun hp => (.cond (.t 0 rfl) (beqT hp)))) <| .p rfl (op_assign (.t 0 rfl)) <| .nil _ _) (by kernel_rfl) (fun n20 a w hst => ?_)
          replace hst : St M w0 199 [(4, tb ((t108.2 == (5:Int)) && t123))] [] a w := (hst.pick [5])
          refine hK39 _ _ ?_
          try clear hK39 K39
          refine wp_ret ?_
          obtain rfl := Option.some.inj h
          exact ret_st undef [] hpl hst rfl (.tmp (.t 0 rfl) .nil) rfl rfl rfl
        · replace h := ite_f b83 h
          refine wp_skip ?_
          refine hK37 _ _ ?_
          try clear hK37 K37
          refine wp_seq_k (fun K40 hK40 => ?_)
          refine wp_seq_k (fun K41 hK41 => ?_)
          refine wp_reg mixed [] hst (fun _ => .p rfl (op_move (.t 2 rfl)) <| .p rfl (op_neq (.t 0 rfl) .k) <| .p rfl (op_move (.t 0 rfl)) <| .g rfl rfl (.b 0 rfl) (fun _ => op_move (.t 6 rfl)) <| .g rfl rfl (.b 1 rfl) (fun hc => op_len Try.underlying22 (.cond (.t 0 rfl) hc)) <| .g rfl rfl (.b 2 rfl) (fun _ => op_move (.t 10 rfl)) <| .g rfl rfl (.b 3 rfl) (fun hc => op_neq (.cond (.t 1 rfl) hc) (.cond (.t 0 rfl) hc)) <| .p rfl (op_or (.t 4 rfl) (fun hp => (.cond (.t 0 rfl) (beqF hp)))) <| .nil _ _) (by kernel_rfl) (fun n21 a w hst => ?_)
          replace hst : St M w0 199 [(132, tb ((t115.2 != (0:Int)) || ((t108.1.length : Int) != t27.1))), (14, tsl (rSl rI) t115.1), (12, tsl rI t108.1), (5, ti t27.1), (6, tsl rSDiff t27.2)] [] a w := (hst.pick [7, 9, 11, 13, 14])
          refine hK41 _ _ ?_
          try clear hK41 K41
          refine wp_test 0 hst rfl (fun b82 => ?_) (fun b82 => ?_)
          · replace h := ite_t b82 h
            refine wp_seq_k (fun K42 hK42 => ?_)
            refine wp_reg mixed [] hst (fun _ => .p rfl (op_assign .k) <| .nil _ _) (by kernel_rfl) (fun n22 a w hst => ?_)
            replace hst : St M w0 199 [(4, tb false)] [] a w := (hst.pick [0])
            refine hK42 _ _ ?_
            try clear hK42 K42
            refine wp_ret ?_
            obtain rfl := Option.some.inj h
            exact ret_st undef [] hpl hst rfl (.tmp (.t 0 rfl) .nil) rfl rfl rfl
          · replace h := ite_f b82 h
            refine wp_skip ?_
            refine hK40 _ _ ?_
            try clear hK40 K40
            refine wp_seq_k (fun K43 hK43 => ?_)
            refine wp_reg mixed [] hst (fun _ => .p rfl (op_assign .k) <| .nil _ _) (by kernel_rfl) (fun n23 a w hst => ?_)
            replace hst : St M w0 199 [(16, tv (.slice none 0 0)), (14, tsl (rSl rI) t115.1), (12, tsl rI t108.1), (5, ti t27.1), (6, tsl rSDiff t27.2)] [own rI 3 ([] : List Int) (.slice none 0 0)] a w := ((hst.pick [0, 2, 3, 4, 5]).nil (rI) 3)
            refine hK43 _ _ ?_
            try clear hK43 K43
            refine wp_seq_k (fun K45 hK45 => ?_)
            refine wp_reg mixed [] hst (fun _ => .p rfl (op_assign .k) <| .nil _ _) (by kernel_rfl) (fun n24 a w hst => ?_)
            replace hst : St M w0 199 [(17, tv (.slice none 0 0)), (16, tv (.slice none 0 0)), (14, tsl (rSl rI) t115.1), (12, tsl rI t108.1), (5, ti t27.1), (6, tsl rSDiff t27.2)] [own rI 3 ([] : List Int) (.slice none 0 0), own rI 3 ([] : List Int) (.slice none 0 0)] a w := ((hst.pick [0, 1, 2, 3, 4, 5]).nil (rI) 3)
            refine hK45 _ _ ?_
            try clear hK45 K45
            refine wp_seq_k (fun K47 hK47 => ?_)
            refine wp_seq_k (fun K48 hK48 => ?_)
            refine wp_reg mixed [] hst (fun _ => .p rfl (op_assign .k) <| .nil _ _) (by kernel_rfl) (fun n25 a w hst => ?_)
            replace hst : St M w0 199 [(18, ti (0:Int)), (17, tv (.slice none 0 0)), (16, tv (.slice none 0 0)), (14, tsl (rSl rI) t115.1), (12, tsl rI t108.1), (5, ti t27.1), (6, tsl rSDiff t27.2)] [own rI 3 ([] : List Int) (.slice none 0 0), own rI 3 ([] : List Int) (.slice none 0 0)] a w := (hst.pick [0, 1, 2, 3, 4, 5, 6])
            refine hK48 _ _ ?_
            try clear hK48 K48
            obtain ⟨e52, he52, h⟩ := bind_some h
            have hJp64 : ∀ (p64 : List Int × List Int) (v65 : Value) (v66 : Value) a w, (.inl p64) = e52 → St M w0 199 [(17, tv v65), (16, tv v66), (5, ti t27.1), (6, tsl rSDiff t27.2)] [own rI 3 p64.1 v65, own rI 3 p64.2 v66] a w → K47 a w := by
              intro p64 v65 v66 a w he hst
              subst he
              simp only at h
              refine hK47 _ _ ?_
              try clear hK47 K47
              refine wp_seq_k (fun K68 hK68 => ?_)
              replace hst : St M w0 199 [(17, tsl rI p64.1), (16, tv v66), (5, ti t27.1), (6, tsl rSDiff t27.2)] [own rI 3 p64.2 v66] a w := ((hst.shareO 0 rfl).pick [0, 2, 3, 4])
              obtain ⟨t177, ht177, h⟩ := bind_some h
              obtain ⟨t179, ht179, h⟩ := bind_some h
              refine wp_reg mixed [] hst (fun _ => .p rfl (op_move (.t 2 rfl)) <| .p rfl (op_move (.t 4 rfl)) <| .p rfl (op_callF call32 ((own14_ok ht177).ro ro_self) (.cons (.of (.t 0 rfl)) <| .nil)) <| .p rfl (op_move (.t 3 rfl)) <| .p rfl (op_callF call40 (Fill_ok ht179) (.cons (.of (.t 3 rfl)) <| .cons (.of (.t 1 rfl)) <| .cons (.of (.t 0 rfl)) <| .nil)) <| .p rfl (op_move (.t 0 rfl)) <| .p rfl (op_extract (.t 0 rfl) rfl) <| .p rfl (op_extract (.t 1 rfl) rfl) <| .p rfl (op_assign (.t 1 rfl)) <| .p rfl (op_assign (.t 1 rfl)) <| .nil _ _) (by kernel_rfl) (fun n34 a w hst => ?_)
              replace hst : St M w0 199 [(23, tsl rI t179.1), (24, ti t179.2), (16, tv v66), (6, tsl rSDiff t27.2)] [own rI 3 p64.2 v66] a w := (hst.pick [8, 9, 11, 13])
              refine hK68 _ _ ?_
              try clear hK68 K68
              refine wp_seq_k (fun K69 hK69 => ?_)
              obtain ⟨t187, ht187, h⟩ := bind_some h
              obtain ⟨t191, ht191, h⟩ := bind_some h
              obtain ⟨t193, ht193, h⟩ := bind_some h
              obtain ⟨t197, ht197, h⟩ := bind_some h
              refine wp_reg mixed [] hst (fun _ => .p rfl (op_move (.t 1 rfl)) <| .p rfl (op_eql (.t 0 rfl) .k) <| .p rfl (op_move (.t 0 rfl)) <| .g rfl rfl (.b 0 rfl) (fun _ => op_move (.t 3 rfl)) <| .g rfl rfl (.b 1 rfl) (fun _ => op_move (.t 6 rfl)) <| .gu [0] rfl rfl rfl (.b 2 rfl) (fun hc => op_callFU [own rI 3 p64.2 v66] call18 (SameInts_ok (opt_t ht187 hc)) (.cons (.of (.cond (.t 1 rfl) hc)) <| .cons (.own (.cond (.t 0 rfl) hc) (.head _)) <| .nil) (fun _ => flat_tv) (fun _ => flatN0 (x := undef))) <| .p rfl (op_and (.t 3 rfl) (fun hp => (.cond (.t 0 rfl) (beqT hp)))) <| .p rfl (op_move (.t 0 rfl)) <| .g rfl rfl (.b 0 rfl) (fun _ => op_move (.t 11 rfl)) <| .g rfl rfl (.b 1 rfl) (fun hc => op_callF call32 ((own14_ok (opt_t ht191 hc)).ro ro_self) (.cons (.of (.cond (.t 0 rfl) hc)) <| .nil)) <| .g rfl rfl (.b 2 rfl) (fun _ => op_move (.t 12 rfl)) <| .gu [0] rfl rfl rfl (.b 3 rfl) (fun hc => op_callFU [own rI 3 p64.2 v66] call42 (Holds_ok (opt_t ht193 hc)) (.cons (.of (.cond (.t 1 rfl) hc)) <| .cons (.own (.cond (.t 0 rfl) hc) (.head _)) <| .nil) (fun _ => flat_tv) (fun _ => flatN0 (x := undef))) <| .g rfl rfl (.b 4 rfl) (fun hc => op_eql (.cond (.t 0 rfl) hc) .k) <| .p rfl (op_and (.t 5 rfl) (fun hp => (.cond (.t 0 rfl) (beqT hp)))) <| .p rfl (op_move (.t 0 rfl)) <| .g rfl rfl (.b 0 rfl) (fun hc => op_callF call37 (lives14_ok (opt_t ht197 hc)) (.nil)) <| .p rfl (op_and (.t 1 rfl) (fun hp => (.cond (.t 0 rfl) (beqT hp)))) <| .p rfl (op_assign (.t 0 rfl)) <| .nil _ _) (by kernel_rfl) (fun n35 a w hst => ?_)
              replace hst : St M w0 199 [(4, tb ((((t179.2 == (0:Int)) && t187) && (t193 == (-1:Int))) && t197)), (16, tv v66)] [own rI 3 p64.2 v66] a w := (hst.pick [17, 20])
              refine hK69 _ _ ?_
              try clear hK69 K69
              refine wp_ret ?_
              obtain rfl := Option.some.inj h
              exact ret_st undef [] hpl hst rfl (.tmp (.t 0 rfl) .nil) rfl rfl rfl
            have hJp67 : ∀ (p67 : Bool) a w, (.inr p67) = e52 → St M w0 199 [(4, tb p67)] [] a w → Ret Try.prog Try.f9 M0 [] w0 (fun _ => []) (fun _ => tb r) .ret a w := by
              intro p67 a w he hst
              subst he
              simp only at h
              obtain rfl := Option.some.inj h
              exact ret_st undef [] hpl hst rfl (.tmp (.t 0 rfl) .nil) rfl rfl rfl
            refine wp_block ?_
            refine wp_loopK _ (fun (s49 : Int × List Int × List Int) a w => ∃ v50 : Value, ∃ v51 : Value, St M w0 199 [(18, ti s49.1), (17, tv v50), (16, tv v51), (14, tsl (rSl rI) t115.1), (12, tsl rI t108.1), (5, ti t27.1), (6, tsl rSDiff t27.2)] [own rI 3 s49.2.1 v50, own rI 3 s49.2.2 v51] a w) _ _ he52 ⟨(.slice none 0 0), (.slice none 0 0), hst.pick [0, 1, 2, 3, 4, 5, 6]⟩ ?_
            clear h
            intro s49 o a w K70 hI h ho hK70
            obtain ⟨v50, v51, hst⟩ := hI
            refine wp_seq_k (fun K71 hK71 => ?_)
            refine wp_seq_k (fun K72 hK72 => ?_)
            refine wp_reg mixed [] hst (fun _ => .p rfl (op_move (.t 0 rfl)) <| .p rfl (op_move (.t 6 rfl)) <| .p rfl (op_lss (.t 1 rfl) (.t 0 rfl)) <| .nil _ _) (by kernel_rfl) (fun n26 a w hst => ?_)
            replace hst : St M w0 199 [(135, tb (decide (s49.1 < t27.1))), (18, ti s49.1), (17, tv v50), (16, tv v51), (14, tsl (rSl rI) t115.1), (12, tsl rI t108.1), (5, ti t27.1), (6, tsl rSDiff t27.2)] [own rI 3 s49.2.1 v50, own rI 3 s49.2.2 v51] a w := (hst.pick [2, 3, 4, 5, 6, 7, 8, 9])
            refine hK72 _ _ ?_
            try clear hK72 K72
            refine wp_test 0 hst rfl (fun b81 => ?_) (fun b81 => ?_)
            · replace h := ite_t b81 h
              refine wp_skip ?_
              refine hK71 _ _ ?_
              try clear hK71 K71
              refine wp_seq_k (fun K73 hK73 => ?_)
              refine wp_block ?_
              refine wp_seq_k (fun K74 hK74 => ?_)
              obtain ⟨t143, ht143, h⟩ := bind_some h
              refine wp_reg mixed [] hst (fun _ => .p rfl (op_move (.t 5 rfl)) <| .p rfl (op_move (.t 7 rfl)) <| .p rfl (op_sub (.t 0 rfl) .k) <| .p rfl (op_move (.t 4 rfl)) <| .p rfl (op_sub (.t 1 rfl) (.t 0 rfl)) <| .p rfl (op_index Try.underlying22 tok3 (.t 4 rfl) (.t 0 rfl) ht143) <| .p rfl (op_load tok3 (.t 0 rfl)) <| .p rfl (op_assign (.t 0 rfl)) <| .nil _ _) (by kernel_rfl) (fun n28 a w hst => ?_)
              replace hst : St M w0 199 [(19, ti t143), (18, ti s49.1), (17, tv v50), (16, tv v51), (14, tsl (rSl rI) t115.1), (12, tsl rI t108.1), (5, ti t27.1), (6, tsl rSDiff t27.2)] [own rI 3 s49.2.1 v50, own rI 3 s49.2.2 v51] a w := (hst.pick [7, 9, 10, 11, 12, 13, 14, 15])
              refine hK74 _ _ ?_
              try clear hK74 K74
              refine wp_seq_k (fun K75 hK75 => ?_)
              obtain ⟨t148, ht148, h⟩ := bind_some h
              refine wp_reg mixed [] hst (fun _ => .p rfl (op_move (.t 4 rfl)) <| .p rfl (op_move (.t 4 rfl)) <| .u [1] rfl rfl (op_callFU [own rI 3 s49.2.2 v51] call38 (Range_ok ht148) (.cons (.of (.t 1 rfl)) <| .cons (.own (.t 0 rfl) (.head _)) <| .nil) (fun _ => (flat_tup (flat_cons flat_tv (flat_cons flat_tv (flat_cons flat_tv flat_nil))))) (fun _ => flatN0 (x := undef))) <| .p rfl (op_move (.t 0 rfl)) <| .p rfl (op_extract (.t 0 rfl) rfl) <| .p rfl (op_extract (.t 1 rfl) rfl) <| .p rfl (op_extract (.t 2 rfl) rfl) <| .p rfl (op_assign (.t 2 rfl)) <| .p rfl (op_assign (.t 2 rfl)) <| .p rfl (op_assign (.t 2 rfl)) <| .nil _ _) (by kernel_rfl) (fun n29 a w hst => ?_)
              replace hst : St M w0 199 [(147, tv v51), (20, ti t148.1), (21, ti t148.2.1), (22, ti t148.2.2), (19, ti t143), (18, ti s49.1), (17, tv v50), (16, tv v51), (14, tsl (rSl rI) t115.1), (12, tsl rI t108.1), (5, ti t27.1), (6, tsl rSDiff t27.2)] [own rI 3 s49.2.1 v50, own rI 3 s49.2.2 v51] a w := (hst.pick [1, 7, 8, 9, 10, 11, 12, 13, 14, 15, 16, 17])
              refine hK75 _ _ ?_
              try clear hK75 K75
              refine wp_seq_k (fun K76 hK76 => ?_)
              refine wp_seq_k (fun K77 hK77 => ?_)
              refine wp_reg mixed [] hst (fun _ => .p rfl (op_move (.t 3 rfl)) <| .p rfl (op_neq (.t 0 rfl) .k) <| .p rfl (op_move (.t 0 rfl)) <| .g rfl rfl (.b 0 rfl) (fun _ => op_move (.t 7 rfl)) <| .g rfl rfl (.b 1 rfl) (fun _ => op_move (.t 5 rfl)) <| .g rfl rfl (.b 2 rfl) (fun hc => op_lss (.cond (.t 1 rfl) hc) (.cond (.t 0 rfl) hc)) <| .p rfl (op_or (.t 3 rfl) (fun hp => (.cond (.t 0 rfl) (beqF hp)))) <| .p rfl (op_move (.t 0 rfl)) <| .g rfl rfl (.b 0 rfl) (fun _ => op_move (.t 12 rfl)) <| .g rfl rfl (.b 1 rfl) (fun _ => op_move (.t 11 rfl)) <| .g rfl rfl (.b 2 rfl) (fun hc => op_gtr (.cond (.t 1 rfl) hc) (.cond (.t 0 rfl) hc)) <| .p rfl (op_or (.t 3 rfl) (fun hp => (.cond (.t 0 rfl) (beqF hp)))) <| .nil _ _) (by kernel_rfl) (fun n30 a w hst => ?_)
              replace hst : St M w0 199 [(163, tb (((t148.2.2 != (0:Int)) || (decide (t143 < t148.1))) || (decide (t143 > t148.2.1)))), (147, tv v51), (20, ti t148.1), (19, ti t143), (18, ti s49.1), (17, tv v50), (16, tv v51), (14, tsl (rSl rI) t115.1), (12, tsl rI t108.1), (5, ti t27.1), (6, tsl rSDiff t27.2)] [own rI 3 s49.2.1 v50, own rI 3 s49.2.2 v51] a w := (hst.pick [11, 12, 13, 16, 17, 18, 19, 20, 21, 22, 23])
              refine hK77 _ _ ?_
              try clear hK77 K77
              refine wp_test 0 hst rfl (fun b80 => ?_) (fun b80 => ?_)
              · replace h := ite_t b80 h
                refine wp_seq_k (fun K78 hK78 => ?_)
                refine wp_reg mixed [] hst (fun _ => .p rfl (op_assign .k) <| .nil _ _) (by kernel_rfl) (fun n31 a w hst => ?_)
                replace hst : St M w0 199 [(4, tb false), (147, tv v51), (17, tv v50), (16, tv v51)] [own rI 3 s49.2.1 v50, own rI 3 s49.2.2 v51] a w := (hst.pick [0, 2, 6, 7])
                refine hK78 _ _ ?_
                try clear hK78 K78
                refine wp_ret ?_
                exact hJp67 _ _ _ (ho _ (Option.some.inj h).symm) ((hst.pick [0]).selA [] rfl)
              · replace h := ite_f b80 h
                refine wp_skip ?_
                refine hK76 _ _ ?_
                try clear hK76 K76
                refine wp_seq_k (fun K79 hK79 => ?_)
                obtain ⟨u169, hu169, h⟩ := bind_some h
                refine wp_reg mixed [v1 5 (fun v0 => own rI 3 (s49.2.1 ++ [(IntKind.i64.wrap (t143 - t148.1))]) v0)] hst (fun _ => .p rfl (op_move (.t 5 rfl)) <| .p rfl (op_move (.t 4 rfl)) <| .p rfl (op_move (.t 4 rfl)) <| .p rfl (op_sub (.t 1 rfl) (.t 0 rfl)) <| .p rfl (op_buildSl (R := rI) (us := [(IntKind.i64.wrap (t143 - t148.1))]) Try.underlying22 tok3 (.cons (.t 0 rfl) <| .nil _) rfl (Nat.le_of_ble_eq_true rfl)) <| .e [] [0] [2] rfl rfl rfl rfl (op_append (R := rI) Try.underlying22 tok3 (Nat.le_of_ble_eq_true rfl) (.t 4 rfl) (.t 0 rfl) hu169) <| .ud (f := fun v => tv v) 5 rfl [] rfl rfl (op_assign (.t 0 rfl)) <| .nil _ _) (by kernel_rfl) (fun n32 a w hst => ?_)
                replace hst : St M w0 199 [(169, tv (n32 5)), (17, tv (n32 5)), (147, tv v51), (19, ti t143), (18, ti s49.1), (16, tv v51), (14, tsl (rSl rI) t115.1), (12, tsl rI t108.1), (5, ti t27.1), (6, tsl rSDiff t27.2)] [own rI 3 s49.2.2 v51, own rI 3 (s49.2.1 ++ [(IntKind.i64.wrap (t143 - t148.1))]) (n32 5)] a w := (hst.pick [5, 6, 8, 10, 11, 12, 13, 14, 15, 16])
                refine hK79 _ _ ?_
                try clear hK79 K79
                obtain ⟨u173, hu173, h⟩ := bind_some h
                refine wp_reg mixed [v1 3 (fun v0 => own rI 3 (s49.2.2 ++ [t143]) v0)] hst (fun _ => .p rfl (op_move (.t 5 rfl)) <| .p rfl (op_move (.t 4 rfl)) <| .p rfl (op_buildSl (R := rI) (us := [t143]) Try.underlying22 tok3 (.cons (.t 0 rfl) <| .nil _) rfl (Nat.le_of_ble_eq_true rfl)) <| .e [] [0] [2] rfl rfl rfl rfl (op_append (R := rI) Try.underlying22 tok3 (Nat.le_of_ble_eq_true rfl) (.t 2 rfl) (.t 0 rfl) hu173) <| .ud (f := fun v => tv v) 3 rfl [] rfl rfl (op_assign (.t 0 rfl)) <| .nil _ _) (by kernel_rfl) (fun n33 a w hst => ?_)
                replace hst : St M w0 199 [(173, tv (n33 3)), (16, tv (n33 3)), (169, tv (n32 5)), (17, tv (n32 5)), (18, ti s49.1), (14, tsl (rSl rI) t115.1), (12, tsl rI t108.1), (5, ti t27.1), (6, tsl rSDiff t27.2)] [own rI 3 (s49.2.1 ++ [(IntKind.i64.wrap (t143 - t148.1))]) (n32 5), own rI 3 (s49.2.2 ++ [t143]) (n33 3)] a w := (hst.pick [3, 4, 5, 6, 9, 10, 11, 12, 13])
                refine hK73 _ _ ?_
                try clear hK73 K73
                refine wp_reg mixed [] hst (fun _ => .p rfl (op_move (.t 4 rfl)) <| .p rfl (op_add (.t 0 rfl) .k) <| .p rfl (op_assign (.t 0 rfl)) <| .nil _ _) (by kernel_rfl) (fun n27 a w hst => ?_)
                replace hst : St M w0 199 [(18, ti (IntKind.i64.wrap (s49.1 + (1:Int)))), (173, tv (n33 3)), (16, tv (n33 3)), (169, tv (n32 5)), (17, tv (n32 5)), (14, tsl (rSl rI) t115.1), (12, tsl rI t108.1), (5, ti t27.1), (6, tsl rSDiff t27.2)] [own rI 3 (s49.2.1 ++ [(IntKind.i64.wrap (t143 - t148.1))]) (n32 5), own rI 3 (s49.2.2 ++ [t143]) (n33 3)] a w := (hst.pick [2, 3, 4, 5, 6, 7, 8, 9, 10])
                exact hK70 _ _ _ (Option.some.inj h).symm ⟨(n32 5), (n33 3), hst.pick [0, 4, 2, 5, 6, 7, 8]⟩
            · replace h := ite_f b81 h
              refine wp_exit ?_
              exact hJp64 _ v50 v51 _ _ (ho _ (Option.some.inj h).symm) (hst.pick [2, 3, 6, 7])
      refine wp_block ?_
      refine wp_loopK _ (fun (s14 : Int × List SDiff) a w => ∃ v15 : Value, St M w0 199 [(10, ti s14.1), (9, tv v15), (5, ti t27.1), (6, tsl rSDiff t27.2), (1, tsl rI picks_)] [own rSDiff 72 s14.2 v15] a w) _ _ he16 ⟨(.slice none 0 0), hst.pick [0, 1, 2, 3, 4]⟩ ?_
      clear h
      intro s14 o a w K84 hI h ho hK84
      obtain ⟨v15, hst⟩ := hI
      refine wp_seq_k (fun K85 hK85 => ?_)
      refine wp_seq_k (fun K86 hK86 => ?_)
      refine wp_reg mixed [] hst (fun _ => .p rfl (op_move (.t 0 rfl)) <| .p rfl (op_move (.t 4 rfl)) <| .p rfl (op_len Try.underlying48 (.t 0 rfl)) <| .p rfl (op_lss (.t 2 rfl) (.t 0 rfl)) <| .nil _ _) (by kernel_rfl) (fun n9 a w hst => ?_)
      replace hst : St M w0 199 [(63, tb (decide (s14.1 < (t27.2.length : Int)))), (10, ti s14.1), (9, tv v15), (5, ti t27.1), (6, tsl rSDiff t27.2), (1, tsl rI picks_)] [own rSDiff 72 s14.2 v15] a w := (hst.pick [3, 4, 5, 6, 7, 8])
      refine hK86 _ _ ?_
      try clear hK86 K86
      refine wp_test 0 hst rfl (fun b100 => ?_) (fun b100 => ?_)
      · replace h := ite_t b100 h
        refine wp_skip ?_
        refine hK85 _ _ ?_
        try clear hK85 K85
        refine wp_seq_k (fun K87 hK87 => ?_)
        refine wp_block ?_
        refine wp_seq_k (fun K88 hK88 => ?_)
        obtain ⟨t68, ht68, h⟩ := bind_some h
        obtain ⟨t73, ht73, h⟩ := bind_some h
        obtain ⟨t78, ht78, h⟩ := bind_some h
        refine wp_reg mixed [v1 16 (fun v0 => box (rSDiff.cs (SDiff.mk (0:Int) (0:Int) (0:Int))) v0), v1 16 (fun v0 => box (rSDiff.cs (SDiff.mk (t68).A (t73).B (t78).N)) v0)] hst (fun _ => .p rfl (op_move (.t 4 rfl)) <| .p rfl (op_move (.t 2 rfl)) <| .p rfl (op_index Try.underlying48 tok71 (.t 1 rfl) (.t 0 rfl) ht68) <| .p rfl (op_field fld71_0 (.t 0 rfl)) <| .p rfl (op_loadT (u := (t68).A) tok3 (.t 0 rfl) rfl) <| .p rfl (op_move (.t 9 rfl)) <| .p rfl (op_move (.t 7 rfl)) <| .p rfl (op_index Try.underlying48 tok71 (.t 1 rfl) (.t 0 rfl) ht73) <| .p rfl (op_field fld71_1 (.t 0 rfl)) <| .p rfl (op_loadT (u := (t73).B) tok3 (.t 0 rfl) rfl) <| .p rfl (op_move (.t 14 rfl)) <| .p rfl (op_move (.t 12 rfl)) <| .p rfl (op_index Try.underlying48 tok71 (.t 1 rfl) (.t 0 rfl) ht78) <| .p rfl (op_field fld71_2 (.t 0 rfl)) <| .p rfl (op_loadT (u := (t78).N) tok3 (.t 0 rfl) rfl) <| .p (T := rSDiff.ty (SDiff.mk (t68).A (t73).B (t78).N)) rfl (op_build Try.underlying72 pl72 zv72 zc72 (.cons (R := rI) (u := (t68).A) rfl (.t 10 rfl) (Nat.le_of_ble_eq_true rfl) <| .cons (R := rI) (u := (t73).B) rfl (.t 5 rfl) (Nat.le_of_ble_eq_true rfl) <| .cons (R := rI) (u := (t78).N) rfl (.t 0 rfl) (Nat.le_of_ble_eq_true rfl) <| .nil _)) <| .m [] [1] rfl rfl rfl (op_alloc (R := rSDiff) (a := (SDiff.mk (0:Int) (0:Int) (0:Int))) tok72 zok72) <| .e [] [1] [2] rfl rfl rfl rfl (op_storeB (R := rSDiff) (a := (SDiff.mk (t68).A (t73).B (t78).N)) tok72 (.t 0 rfl) (.t 1 rfl) (Nat.le_of_ble_eq_true rfl)) <| .nil _ _) (by kernel_rfl) (fun n11 a w hst => ?_)
        replace hst : St M w0 199 [(11, tv (n11 16)), (10, ti s14.1), (9, tv v15), (5, ti t27.1), (6, tsl rSDiff t27.2), (1, tsl rI picks_)] [own rSDiff 72 s14.2 v15, box (rSDiff.cs (SDiff.mk (t68).A (t73).B (t78).N)) (n11 16)] a w := (hst.pick [16, 18, 19, 20, 21, 22])
        refine hK88 _ _ ?_
        try clear hK88 K88
        refine wp_seq_k (fun K90 hK90 => ?_)
        refine wp_seq_k (fun K91 hK91 => ?_)
        refine wp_reg mixed [] hst (fun _ => .u [1] rfl rfl (op_fieldB fld72_0 (.t 0 rfl)) <| .u [1] rfl rfl (op_loadBf (R := rI) (u := ((SDiff.mk (t68).A (t73).B (t78).N)).A) tok3 (.t 0 rfl) rfl) <| .p rfl (op_geq (.t 0 rfl) .k) <| .nil _ _) (by kernel_rfl) (fun n12 a w hst => ?_)
        replace hst : St M w0 199 [(84, tb (decide (((SDiff.mk (t68).A (t73).B (t78).N)).A ≥ (0:Int)))), (11, tv (n11 16)), (10, ti s14.1), (9, tv v15), (5, ti t27.1), (6, tsl rSDiff t27.2), (1, tsl rI picks_)] [own rSDiff 72 s14.2 v15, box (rSDiff.cs (SDiff.mk (t68).A (t73).B (t78).N)) (n11 16)] a w := (hst.pick [2, 3, 4, 5, 6, 7, 8])
        refine hK91 _ _ ?_
        try clear hK91 K91
        obtain ⟨p92, hp92, h⟩ := bind_some h
        have hJp92 : ∀ a w, St M w0 199 [(11, tv (n11 16)), (10, ti s14.1), (9, tv v15), (5, ti t27.1), (6, tsl rSDiff t27.2), (1, tsl rI picks_)] [own rSDiff 72 s14.2 v15, box (rSDiff.cs p92) (n11 16)] a w → K90 a w := by
          intro a w hst
          refine hK90 _ _ ?_
          try clear hK90 K90
          refine wp_seq_k (fun K94 hK94 => ?_)
          refine wp_seq_k (fun K95 hK95 => ?_)
          refine wp_reg mixed [] hst (fun _ => .u [1] rfl rfl (op_fieldB fld72_1 (.t 0 rfl)) <| .u [1] rfl rfl (op_loadBf (R := rI) (u := (p92).B) tok3 (.t 0 rfl) rfl) <| .p rfl (op_geq (.t 0 rfl) .k) <| .nil _ _) (by kernel_rfl) (fun n14 a w hst => ?_)
          replace hst : St M w0 199 [(93, tb (decide ((p92).B ≥ (0:Int)))), (11, tv (n11 16)), (10, ti s14.1), (9, tv v15), (5, ti t27.1), (6, tsl rSDiff t27.2), (1, tsl rI picks_)] [own rSDiff 72 s14.2 v15, box (rSDiff.cs p92) (n11 16)] a w := (hst.pick [2, 3, 4, 5, 6, 7, 8])
          refine hK95 _ _ ?_
          try clear hK95 K95
          obtain ⟨p96, hp96, h⟩ := bind_some h
          have hJp96 : ∀ a w, St M w0 199 [(11, tv (n11 16)), (10, ti s14.1), (9, tv v15), (5, ti t27.1), (6, tsl rSDiff t27.2), (1, tsl rI picks_)] [own rSDiff 72 s14.2 v15, box (rSDiff.cs p96) (n11 16)] a w → K94 a w := by
            intro a w hst
            refine hK94 _ _ ?_
            try clear hK94 K94
            obtain ⟨u103, hu103, h⟩ := bind_some h
            refine wp_reg mixed [v1 3 (fun v0 => own rSDiff 72 (s14.2 ++ [p96]) v0)] hst (fun _ => .p rfl (op_move (.t 2 rfl)) <| .u [1] rfl rfl (op_loadB (R := rSDiff) (u := p96) tok72 (.t 1 rfl) rfl) <| .p rfl (op_buildSl (R := rSDiff) (us := [p96]) Try.underlying55 tok72 (.cons (.t 0 rfl) <| .nil _) rfl (Nat.le_of_ble_eq_true rfl)) <| .e [] [0] [2] rfl rfl rfl rfl (op_append (R := rSDiff) Try.underlying55 tok72 (Nat.le_of_ble_eq_true rfl) (.t 2 rfl) (.t 0 rfl) hu103) <| .ud (f := fun v => tv v) 3 rfl [] rfl rfl (op_assign (.t 0 rfl)) <| .nil _ _) (by kernel_rfl) (fun n16 a w hst => ?_)
            replace hst : St M w0 199 [(103, tv (n16 3)), (9, tv (n16 3)), (10, ti s14.1), (5, ti t27.1), (6, tsl rSDiff t27.2), (1, tsl rI picks_)] [own rSDiff 72 (s14.2 ++ [p96]) (n16 3)] a w := ((hst.pick [3, 4, 6, 7, 8, 9]).selA [1] rfl)
            refine hK87 _ _ ?_
            try clear hK87 K87
            refine wp_reg mixed [] hst (fun _ => .p rfl (op_move (.t 2 rfl)) <| .p rfl (op_add (.t 0 rfl) .k) <| .p rfl (op_assign (.t 0 rfl)) <| .nil _ _) (by kernel_rfl) (fun n10 a w hst => ?_)
            replace hst : St M w0 199 [(10, ti (IntKind.i64.wrap (s14.1 + (1:Int)))), (103, tv (n16 3)), (9, tv (n16 3)), (5, ti t27.1), (6, tsl rSDiff t27.2), (1, tsl rI picks_)] [own rSDiff 72 (s14.2 ++ [p96]) (n16 3)] a w := (hst.pick [2, 3, 4, 5, 6, 7])
            exact hK84 _ _ _ (Option.some.inj h).symm ⟨(n16 3), hst.pick [0, 2, 3, 4, 5]⟩
          replace h := hp96
          clear hp96
          refine wp_test 0 hst rfl (fun b98 => ?_) (fun b98 => ?_)
          · replace h := ite_t b98 h
            refine wp_reg mixed [v0 (box (rSDiff.cs { p92 with B := (IntKind.i64.wrap ((IntKind.i64.wrap (t27.1 - (1:Int))) - (p92).B)) }) (n11 16))] hst (fun _ => .p rfl (op_move (.t 4 rfl)) <| .p rfl (op_sub (.t 0 rfl) .k) <| .u [1] rfl rfl (op_fieldB fld72_1 (.t 3 rfl)) <| .u [1] rfl rfl (op_loadBf (R := rI) (u := (p92).B) tok3 (.t 0 rfl) rfl) <| .p rfl (op_sub (.t 2 rfl) (.t 0 rfl)) <| .u [1] rfl rfl (op_fieldB fld72_1 (.t 6 rfl)) <| .e [] [1] [2] rfl rfl rfl rfl (op_storeBf (R := rI) (a := (IntKind.i64.wrap ((IntKind.i64.wrap (t27.1 - (1:Int))) - (p92).B))) (Ts := rSDiff.cs p92) (off := 1) tok3 (.t 0 rfl) (.t 1 rfl) (Nat.le_of_ble_eq_true rfl)) <| .nil _ _) (by kernel_rfl) (fun n15 a w hst => ?_)
            replace hst : St M w0 199 [(11, tv (n11 16)), (10, ti s14.1), (9, tv v15), (5, ti t27.1), (6, tsl rSDiff t27.2), (1, tsl rI picks_)] [own rSDiff 72 s14.2 v15, box (rSDiff.cs { p92 with B := (IntKind.i64.wrap ((IntKind.i64.wrap (t27.1 - (1:Int))) - (p92).B)) }) (n11 16)] a w := (hst.pick [7, 8, 9, 10, 11, 12])
            obtain rfl := Option.some.inj h
            exact hJp96 _ _ (hst.pick [0, 1, 2, 3, 4, 5])
          · replace h := ite_f b98 h
            refine wp_skip ?_
            obtain rfl := Option.some.inj h
            exact hJp96 _ _ (hst.pick [1, 2, 3, 4, 5, 6])
        replace h := hp92
        clear hp92
        refine wp_test 0 hst rfl (fun b99 => ?_) (fun b99 => ?_)
        · replace h := ite_t b99 h
          refine wp_reg mixed [v0 (box (rSDiff.cs { (SDiff.mk (t68).A (t73).B (t78).N) with A := (IntKind.i64.wrap ((IntKind.i64.wrap (t27.1 - (1:Int))) - ((SDiff.mk (t68).A (t73).B (t78).N)).A)) }) (n11 16))] hst (fun _ => .p rfl (op_move (.t 4 rfl)) <| .p rfl (op_sub (.t 0 rfl) .k) <| .u [1] rfl rfl (op_fieldB fld72_0 (.t 3 rfl)) <| .u [1] rfl rfl (op_loadBf (R := rI) (u := ((SDiff.mk (t68).A (t73).B (t78).N)).A) tok3 (.t 0 rfl) rfl) <| .p rfl (op_sub (.t 2 rfl) (.t 0 rfl)) <| .u [1] rfl rfl (op_fieldB fld72_0 (.t 6 rfl)) <| .e [] [1] [2] rfl rfl rfl rfl (op_storeBf (R := rI) (a := (IntKind.i64.wrap ((IntKind.i64.wrap (t27.1 - (1:Int))) - ((SDiff.mk (t68).A (t73).B (t78).N)).A))) (Ts := rSDiff.cs (SDiff.mk (t68).A (t73).B (t78).N)) (off := 0) tok3 (.t 0 rfl) (.t 1 rfl) (Nat.le_of_ble_eq_true rfl)) <| .nil _ _) (by kernel_rfl) (fun n13 a w hst => ?_)
          replace hst : St M w0 199 [(11, tv (n11 16)), (10, ti s14.1), (9, tv v15), (5, ti t27.1), (6, tsl rSDiff t27.2), (1, tsl rI picks_)] [own rSDiff 72 s14.2 v15, box (rSDiff.cs { (SDiff.mk (t68).A (t73).B (t78).N) with A := (IntKind.i64.wrap ((IntKind.i64.wrap (t27.1 - (1:Int))) - ((SDiff.mk (t68).A (t73).B (t78).N)).A)) }) (n11 16)] a w := (hst.pick [7, 8, 9, 10, 11, 12])
          obtain rfl := Option.some.inj h
          exact hJp92 _ _ (hst.pick [0, 1, 2, 3, 4, 5])
        · replace h := ite_f b99 h
          refine wp_skip ?_
          obtain rfl := Option.some.inj h
          exact hJp92 _ _ (hst.pick [1, 2, 3, 4, 5, 6])
      · replace h := ite_f b100 h
        refine wp_exit ?_
        exact hJp33 _ v15 _ _ (ho _ (Option.some.inj h).symm) (hst.pick [2, 3, 4, 5])


end Go.Proofs.Ytjniiejgccdhiaa
