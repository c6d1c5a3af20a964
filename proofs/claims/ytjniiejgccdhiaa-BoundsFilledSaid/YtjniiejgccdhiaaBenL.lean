/- Go functions as Lean functions, and the proofs that they compute them, written by a program. No condition. -/
import Derived.Test.YtjniiejgccdhiaaBenF
namespace Go.Proofs.Ytjniiejgccdhiaa
open Go.Sim

/- diorama/dioramalaw14.BoundsClosed -/
noncomputable def fBoundsClosed (l_ : (List Int)) : Option (Bool) := (fMade14 l_).bind fun t17 => (fown14 t17.2).bind fun t23 => (fClose t17.1 t23).bind fun t24 => (if (t24.2 != (0:Int)) = true then (opt (((t24.2 == (14:Int)) && ((t24.1.length : Int) == (0:Int))) == true) (flives14) default).bind fun t37 => (some (((t24.2 == (14:Int)) && ((t24.1.length : Int) == (0:Int))) && t37)) else (if ((t24.1.length : Int) != (IntKind.i64.wrap (t17.1 + (1:Int)))) = true then (some false) else (tailrec (fun (s12 : Int) => ((if (decide (s12 ≤ t17.1)) = true then (idx t24.1 s12).bind fun t51 => (if ((t51.length : Int) != (IntKind.i64.wrap (t17.1 + (1:Int)))) = true then (some (.inr (.inr false))) else (some (.inl (IntKind.i64.wrap (s12 + (1:Int)))))) else (some (.inr (.inl ())))) : Option ((Int) ⊕ ((Unit) ⊕ (Bool))))) (0:Int)).bind fun (e13 : (Unit) ⊕ (Bool)) => (match e13 with | .inl p21 => (tailrec (fun (s27 : Int × List SDiff) => ((if (decide (s27.1 ≤ t17.1)) = true then (idx t24.1 s27.1).bind fun t64 => (idx t64 s27.1).bind fun t67 => (if (t67 != (0:Int)) = true then (some (.inr (.inr false))) else (tailrec (fun (s167 : Int × List SDiff) => ((if (decide (s167.1 ≤ t17.1)) = true then (tailrec (fun (s233 : Int) => ((if (decide (s233 ≤ t17.1)) = true then (idx t24.1 s27.1).bind fun t82 => (idx t82 s233).bind fun t85 => (opt ((decide (t85 < (1099511627776:Int))) == true) (idx t24.1 s233) default).bind fun t91 => (opt ((decide (t85 < (1099511627776:Int))) == true) (idx t91 s167.1) default).bind fun t94 => (opt (((decide (t85 < (1099511627776:Int))) && (decide (t94 < (1099511627776:Int)))) == true) (idx t24.1 s27.1) default).bind fun t101 => (opt (((decide (t85 < (1099511627776:Int))) && (decide (t94 < (1099511627776:Int)))) == true) (idx t101 s167.1) default).bind fun t104 => (opt (((decide (t85 < (1099511627776:Int))) && (decide (t94 < (1099511627776:Int)))) == true) (idx t24.1 s27.1) default).bind fun t108 => (opt (((decide (t85 < (1099511627776:Int))) && (decide (t94 < (1099511627776:Int)))) == true) (idx t108 s233) default).bind fun t111 => (opt (((decide (t85 < (1099511627776:Int))) && (decide (t94 < (1099511627776:Int)))) == true) (idx t24.1 s233) default).bind fun t115 => (opt (((decide (t85 < (1099511627776:Int))) && (decide (t94 < (1099511627776:Int)))) == true) (idx t115 s167.1) default).bind fun t118 => (if (((decide (t85 < (1099511627776:Int))) && (decide (t94 < (1099511627776:Int)))) && (decide (t104 > (IntKind.i64.wrap (t111 + t118))))) = true then (some (.inr (.inr false))) else (some (.inl (IntKind.i64.wrap (s233 + (1:Int)))))) else (some (.inr (.inl ())))) : Option ((Int) ⊕ ((Unit) ⊕ (Bool))))) (0:Int)).bind fun (e234 : (Unit) ⊕ (Bool)) => (match e234 with | .inl p242 => (opt ((s27.1 != s167.1) == true) (idx t24.1 s27.1) default).bind fun t129 => (opt ((s27.1 != s167.1) == true) (idx t129 s167.1) default).bind fun t132 => ((if ((s27.1 != s167.1) && (decide (t132 < (1099511627776:Int)))) = true then (idx t24.1 s27.1).bind fun t140 => (idx t140 s167.1).bind fun t143 => ((if (s27.1 == t17.1) = true then (some { (SDiff.mk s27.1 s167.1 t143) with A := (-1:Int) }) else (some (SDiff.mk s27.1 s167.1 t143)))).bind fun (p264 : SDiff) => ((if (s167.1 == t17.1) = true then (some { p264 with B := (-1:Int) }) else (some p264))).bind fun (p268 : SDiff) => (rm (s167.2.length + [p268].length)).bind fun _ => (some (s167.2 ++ [p268])) else (some s167.2))).bind fun (p245 : List SDiff) => (some (.inl ((IntKind.i64.wrap (s167.1 + (1:Int))), p245))) | .inr p243 => (some (.inr (.inr p243)))) else (some (.inr (.inl s167.2)))) : Option ((Int × List SDiff) ⊕ ((List SDiff) ⊕ (Bool))))) ((0:Int), s27.2)).bind fun (e169 : (List SDiff) ⊕ (Bool)) => (match e169 with | .inl p224 => (some (.inl ((IntKind.i64.wrap (s27.1 + (1:Int))), p224))) | .inr p226 => (some (.inr (.inr p226))))) else (some (.inr (.inl s27.2)))) : Option ((Int × List SDiff) ⊕ ((List SDiff) ⊕ (Bool))))) ((0:Int), ([] : List SDiff))).bind fun (e29 : (List SDiff) ⊕ (Bool)) => (match e29 with | .inl p154 => (fClose t17.1 p154).bind fun t161 => (opt ((t161.2 == (0:Int)) == true) (fSameTables t161.1 t24.1) default).bind fun t169 => (opt (((t161.2 == (0:Int)) && t169) == true) (flives14) default).bind fun t172 => (some (((t161.2 == (0:Int)) && t169) && t172)) | .inr p156 => (some p156)) | .inr p22 => (some p22))))
set_option maxRecDepth 100000 in
set_option maxHeartbeats 4000000 in
theorem BoundsClosed_ok {l_ : (List Int)} {r : Bool} (h : fBoundsClosed l_ = some r) : FnOk Try.prog 11 [tsl rI l_] [] (fun _ => []) (fun _ => tb r) := by
  unfold fBoundsClosed at h
  refine FnOk.enter Try.func11 rfl Try.ntmps11 (Nat.le_of_ble_eq_true rfl) (fun M0 M w0 a hpl hst => ?_)
  replace hst : St M w0 174 [(0, tsl rI l_)] [] a w0 := hst
  refine wp_seq_k (fun K1 hK1 => ?_)
  refine wp_reg mixed [] hst (fun _ => .p rfl (op_assign .k) <| .nil _ _) (by kernel_rfl) (fun n0 a w hst => ?_)
  replace hst : St M w0 174 [(0, tsl rI l_)] [] a w := (hst.pick [1])
  refine hK1 _ _ ?_
  try clear hK1 K1
  refine wp_seq_k (fun K2 hK2 => ?_)
  obtain ⟨t17, ht17, h⟩ := bind_some h
  refine wp_reg mixed [] hst (fun _ => .p rfl (op_move (.t 0 rfl)) <| .p rfl (op_callF call29 ((Made14_ok ht17).ro ro_tup1) (.cons (.of (.t 0 rfl)) <| .nil)) <| .p rfl (op_move (.t 0 rfl)) <| .p rfl (op_extract (.t 0 rfl) rfl) <| .p rfl (op_extract (.t 1 rfl) rfl) <| .p rfl (op_assign (.t 1 rfl)) <| .p rfl (op_assign (.t 1 rfl)) <| .nil _ _) (by kernel_rfl) (fun n1 a w hst => ?_)
  replace hst : St M w0 174 [(3, ti t17.1), (4, tsl rSDiff t17.2)] [] a w := (hst.pick [5, 6])
  refine hK2 _ _ ?_
  try clear hK2 K2
  refine wp_seq_k (fun K3 hK3 => ?_)
  obtain ⟨t23, ht23, h⟩ := bind_some h
  obtain ⟨t24, ht24, h⟩ := bind_some h
  refine wp_reg mixed [] hst (fun _ => .p rfl (op_move (.t 0 rfl)) <| .p rfl (op_move (.t 2 rfl)) <| .p rfl (op_callF call32 ((own14_ok ht23).ro ro_self) (.cons (.of (.t 0 rfl)) <| .nil)) <| .p rfl (op_callF call31 (Close_ok ht24) (.cons (.of (.t 2 rfl)) <| .cons (.of (.t 0 rfl)) <| .nil)) <| .p rfl (op_move (.t 0 rfl)) <| .p rfl (op_extract (.t 0 rfl) rfl) <| .p rfl (op_extract (.t 1 rfl) rfl) <| .p rfl (op_assign (.t 1 rfl)) <| .p rfl (op_assign (.t 1 rfl)) <| .nil _ _) (by kernel_rfl) (fun n2 a w hst => ?_)
  replace hst : St M w0 174 [(5, tsl (rSl rI) t24.1), (6, ti t24.2), (3, ti t17.1)] [] a w := (hst.pick [7, 8, 9])
  refine hK3 _ _ ?_
  try clear hK3 K3
  refine wp_seq_k (fun K4 hK4 => ?_)
  refine wp_seq_k (fun K5 hK5 => ?_)
  refine wp_reg mixed [] hst (fun _ => .p rfl (op_move (.t 1 rfl)) <| .p rfl (op_neq (.t 0 rfl) .k) <| .nil _ _) (by kernel_rfl) (fun n3 a w hst => ?_)
  replace hst : St M w0 174 [(28, tb (t24.2 != (0:Int))), (5, tsl (rSl rI) t24.1), (6, ti t24.2), (3, ti t17.1)] [] a w := (hst.pick [1, 2, 3, 4])
  refine hK5 _ _ ?_
  try clear hK5 K5
  refine wp_test 0 hst rfl (fun b293 => ?_) (fun b293 => ?_)
  · replace h := ite_t b293 h
    refine wp_seq_k (fun K6 hK6 => ?_)
    obtain ⟨t37, ht37, h⟩ := bind_some h
    refine wp_reg mixed [] hst (fun _ => .p rfl (op_move (.t 2 rfl)) <| .p rfl (op_eql (.t 0 rfl) .k) <| .p rfl (op_move (.t 0 rfl)) <| .g rfl rfl (.b 0 rfl) (fun _ => op_move (.t 4 rfl)) <| .g rfl rfl (.b 1 rfl) (fun hc => op_len Try.underlying26 (.cond (.t 0 rfl) hc)) <| .g rfl rfl (.b 2 rfl) (fun hc => op_eql (.cond (.t 0 rfl) hc) .k) <| .p rfl (op_and (.t 3 rfl) (fun hp => (.cond (.t 0 rfl) (beqT hp)))) <| .p rfl (op_move (.t 0 rfl)) <| .g rfl rfl (.b 0 rfl) (fun hc => op_callF call37 (lives14_ok (opt_t ht37 hc)) (.nil)) <| .p rfl (op_and (.t 1 rfl) (fun hp => (.cond (.t 0 rfl) (beqT hp)))) <| .p rfl (op_assign (.t 0 rfl)) <| .nil _ _) (by kernel_rfl) (fun n4 a w hst => ?_)
    replace hst : St M w0 174 [(2, tb (((t24.2 == (14:Int)) && ((t24.1.length : Int) == (0:Int))) && t37))] [] a w := (hst.pick [10])
    refine hK6 _ _ ?_
    try clear hK6 K6
    refine wp_ret ?_
    obtain rfl := Option.some.inj h
    exact ret_st undef [] hpl hst rfl (.tmp (.t 0 rfl) .nil) rfl rfl rfl
  · replace h := ite_f b293 h
    refine wp_skip ?_
    refine hK4 _ _ ?_
    try clear hK4 K4
    refine wp_seq_k (fun K7 hK7 => ?_)
    refine wp_seq_k (fun K8 hK8 => ?_)
    refine wp_reg mixed [] hst (fun _ => .p rfl (op_move (.t 1 rfl)) <| .p rfl (op_len Try.underlying26 (.t 0 rfl)) <| .p rfl (op_move (.t 5 rfl)) <| .p rfl (op_add (.t 0 rfl) .k) <| .p rfl (op_neq (.t 2 rfl) (.t 0 rfl)) <| .nil _ _) (by kernel_rfl) (fun n5 a w hst => ?_)
    replace hst : St M w0 174 [(43, tb ((t24.1.length : Int) != (IntKind.i64.wrap (t17.1 + (1:Int))))), (5, tsl (rSl rI) t24.1), (3, ti t17.1)] [] a w := (hst.pick [4, 6, 8])
    refine hK8 _ _ ?_
    try clear hK8 K8
    refine wp_test 0 hst rfl (fun b292 => ?_) (fun b292 => ?_)
    · replace h := ite_t b292 h
      refine wp_seq_k (fun K9 hK9 => ?_)
      refine wp_reg mixed [] hst (fun _ => .p rfl (op_assign .k) <| .nil _ _) (by kernel_rfl) (fun n6 a w hst => ?_)
      replace hst : St M w0 174 [(2, tb false)] [] a w := (hst.pick [0])
      refine hK9 _ _ ?_
      try clear hK9 K9
      refine wp_ret ?_
      obtain rfl := Option.some.inj h
      exact ret_st undef [] hpl hst rfl (.tmp (.t 0 rfl) .nil) rfl rfl rfl
    · replace h := ite_f b292 h
      refine wp_skip ?_
      refine hK7 _ _ ?_
      try clear hK7 K7
      refine wp_seq_k (fun K10 hK10 => ?_)
      refine wp_seq_k (fun K11 hK11 => ?_)
      refine wp_reg mixed [] hst (fun _ => .p rfl (op_assign .k) <| .nil _ _) (by kernel_rfl) (fun n7 a w hst => ?_)
      replace hst : St M w0 174 [(7, ti (0:Int)), (5, tsl (rSl rI) t24.1), (3, ti t17.1)] [] a w := (hst.pick [0, 2, 3])
      refine hK11 _ _ ?_
      try clear hK11 K11
      obtain ⟨e13, he13, h⟩ := bind_some h
      have hJp21 : ∀ (p21 : Unit) a w, (.inl p21) = e13 → St M w0 174 [(5, tsl (rSl rI) t24.1), (3, ti t17.1)] [] a w → K10 a w := by
        intro p21 a w he hst
        subst he
        simp only at h
        refine hK10 _ _ ?_
        try clear hK10 K10
        refine wp_seq_k (fun K23 hK23 => ?_)
        refine wp_reg mixed [] hst (fun _ => .p rfl (op_assign .k) <| .nil _ _) (by kernel_rfl) (fun n12 a w hst => ?_)
        replace hst : St M w0 174 [(8, tv (.slice none 0 0)), (5, tsl (rSl rI) t24.1), (3, ti t17.1)] [own rSDiff 72 ([] : List SDiff) (.slice none 0 0)] a w := ((hst.pick [0, 1, 2]).nil (rSDiff) 72)
        refine hK23 _ _ ?_
        try clear hK23 K23
        refine wp_seq_k (fun K25 hK25 => ?_)
        refine wp_seq_k (fun K26 hK26 => ?_)
        refine wp_reg mixed [] hst (fun _ => .p rfl (op_assign .k) <| .nil _ _) (by kernel_rfl) (fun n13 a w hst => ?_)
        replace hst : St M w0 174 [(9, ti (0:Int)), (8, tv (.slice none 0 0)), (5, tsl (rSl rI) t24.1), (3, ti t17.1)] [own rSDiff 72 ([] : List SDiff) (.slice none 0 0)] a w := (hst.pick [0, 1, 2, 3])
        refine hK26 _ _ ?_
        try clear hK26 K26
        obtain ⟨e29, he29, h⟩ := bind_some h
        have hJp154 : ∀ (p154 : List SDiff) (v155 : Value) a w, (.inl p154) = e29 → St M w0 174 [(8, tv v155), (5, tsl (rSl rI) t24.1), (3, ti t17.1)] [own rSDiff 72 p154 v155] a w → K25 a w := by
          intro p154 v155 a w he hst
          subst he
          simp only at h
          refine hK25 _ _ ?_
          try clear hK25 K25
          refine wp_seq_k (fun K157 hK157 => ?_)
          replace hst : St M w0 174 [(8, tsl rSDiff p154), (5, tsl (rSl rI) t24.1), (3, ti t17.1)] [] a w := ((hst.shareO 0 rfl).pick [0, 2, 3])
          obtain ⟨t161, ht161, h⟩ := bind_some h
          refine wp_reg mixed [] hst (fun _ => .p rfl (op_move (.t 2 rfl)) <| .p rfl (op_move (.t 1 rfl)) <| .p rfl (op_callF call31 (Close_ok ht161) (.cons (.of (.t 1 rfl)) <| .cons (.of (.t 0 rfl)) <| .nil)) <| .p rfl (op_move (.t 0 rfl)) <| .p rfl (op_extract (.t 0 rfl) rfl) <| .p rfl (op_extract (.t 1 rfl) rfl) <| .p rfl (op_assign (.t 1 rfl)) <| .p rfl (op_assign (.t 1 rfl)) <| .nil _ _) (by kernel_rfl) (fun n33 a w hst => ?_)
          replace hst : St M w0 174 [(13, tsl (rSl rI) t161.1), (14, ti t161.2), (5, tsl (rSl rI) t24.1)] [] a w := (hst.pick [6, 7, 9])
          refine hK157 _ _ ?_
          try clear hK157 K157
          refine wp_seq_k (fun K158 hK158 => ?_)
          obtain ⟨t169, ht169, h⟩ := bind_some h
          obtain ⟨t172, ht172, h⟩ := bind_some h
          refine wp_reg mixed [] hst (fun _ => .p rfl (op_move (.t 1 rfl)) <| .p rfl (op_eql (.t 0 rfl) .k) <| .p rfl (op_move (.t 0 rfl)) <| .g rfl rfl (.b 0 rfl) (fun _ => op_move (.t 3 rfl)) <| .g rfl rfl (.b 1 rfl) (fun _ => op_move (.t 6 rfl)) <| .g rfl rfl (.b 2 rfl) (fun hc => op_callF call36 (SameTables_ok (opt_t ht169 hc)) (.cons (.of (.cond (.t 1 rfl) hc)) <| .cons (.of (.cond (.t 0 rfl) hc)) <| .nil)) <| .p rfl (op_and (.t 3 rfl) (fun hp => (.cond (.t 0 rfl) (beqT hp)))) <| .p rfl (op_move (.t 0 rfl)) <| .g rfl rfl (.b 0 rfl) (fun hc => op_callF call37 (lives14_ok (opt_t ht172 hc)) (.nil)) <| .p rfl (op_and (.t 1 rfl) (fun hp => (.cond (.t 0 rfl) (beqT hp)))) <| .p rfl (op_assign (.t 0 rfl)) <| .nil _ _) (by kernel_rfl) (fun n34 a w hst => ?_)
          replace hst : St M w0 174 [(2, tb (((t161.2 == (0:Int)) && t169) && t172))] [] a w := (hst.pick [10])
          refine hK158 _ _ ?_
          try clear hK158 K158
          refine wp_ret ?_
          obtain rfl := Option.some.inj h
          exact ret_st undef [] hpl hst rfl (.tmp (.t 0 rfl) .nil) rfl rfl rfl
        have hJp156 : ∀ (p156 : Bool) a w, (.inr p156) = e29 → St M w0 174 [(2, tb p156)] [] a w → Ret Try.prog Try.f11 M0 [] w0 (fun _ => []) (fun _ => tb r) .ret a w := by
          intro p156 a w he hst
          subst he
          simp only at h
          obtain rfl := Option.some.inj h
          exact ret_st undef [] hpl hst rfl (.tmp (.t 0 rfl) .nil) rfl rfl rfl
        refine wp_block ?_
        refine wp_loopK _ (fun (s27 : Int × List SDiff) a w => ∃ v28 : Value, St M w0 174 [(9, ti s27.1), (8, tv v28), (5, tsl (rSl rI) t24.1), (3, ti t17.1)] [own rSDiff 72 s27.2 v28] a w) _ _ he29 ⟨(.slice none 0 0), hst.pick [0, 1, 2, 3]⟩ ?_
        clear h
        intro s27 o a w K159 hI h ho hK159
        obtain ⟨v28, hst⟩ := hI
        refine wp_seq_k (fun K160 hK160 => ?_)
        refine wp_seq_k (fun K161 hK161 => ?_)
        refine wp_reg mixed [] hst (fun _ => .p rfl (op_move (.t 0 rfl)) <| .p rfl (op_move (.t 4 rfl)) <| .p rfl (op_leq (.t 1 rfl) (.t 0 rfl)) <| .nil _ _) (by kernel_rfl) (fun n14 a w hst => ?_)
        replace hst : St M w0 174 [(59, tb (decide (s27.1 ≤ t17.1))), (9, ti s27.1), (8, tv v28), (5, tsl (rSl rI) t24.1), (3, ti t17.1)] [own rSDiff 72 s27.2 v28] a w := (hst.pick [2, 3, 4, 5, 6])
        refine hK161 _ _ ?_
        try clear hK161 K161
        refine wp_test 0 hst rfl (fun b283 => ?_) (fun b283 => ?_)
        · replace h := ite_t b283 h
          refine wp_skip ?_
          refine hK160 _ _ ?_
          try clear hK160 K160
          refine wp_seq_k (fun K162 hK162 => ?_)
          refine wp_block ?_
          refine wp_seq_k (fun K163 hK163 => ?_)
          refine wp_seq_k (fun K164 hK164 => ?_)
          obtain ⟨t64, ht64, h⟩ := bind_some h
          obtain ⟨t67, ht67, h⟩ := bind_some h
          refine wp_reg mixed [] hst (fun _ => .p rfl (op_move (.t 3 rfl)) <| .p rfl (op_move (.t 2 rfl)) <| .p rfl (op_index Try.underlying26 tok22 (.t 1 rfl) (.t 0 rfl) ht64) <| .p rfl (op_load tok22 (.t 0 rfl)) <| .p rfl (op_move (.t 5 rfl)) <| .p rfl (op_index Try.underlying22 tok3 (.t 1 rfl) (.t 0 rfl) ht67) <| .p rfl (op_load tok3 (.t 0 rfl)) <| .p rfl (op_neq (.t 0 rfl) .k) <| .nil _ _) (by kernel_rfl) (fun n16 a w hst => ?_)
          replace hst : St M w0 174 [(69, tb (t67 != (0:Int))), (9, ti s27.1), (8, tv v28), (5, tsl (rSl rI) t24.1), (3, ti t17.1)] [own rSDiff 72 s27.2 v28] a w := (hst.pick [7, 9, 10, 11, 12])
          refine hK164 _ _ ?_
          try clear hK164 K164
          refine wp_test 0 hst rfl (fun b282 => ?_) (fun b282 => ?_)
          · replace h := ite_t b282 h
            refine wp_seq_k (fun K165 hK165 => ?_)
            refine wp_reg mixed [] hst (fun _ => .p rfl (op_assign .k) <| .nil _ _) (by kernel_rfl) (fun n17 a w hst => ?_)
            replace hst : St M w0 174 [(2, tb false), (8, tv v28)] [own rSDiff 72 s27.2 v28] a w := (hst.pick [0, 3])
            refine hK165 _ _ ?_
            try clear hK165 K165
            refine wp_ret ?_
            exact hJp156 _ _ _ (ho _ (Option.some.inj h).symm) ((hst.pick [0]).selA [] rfl)
          · replace h := ite_f b282 h
            refine wp_skip ?_
            refine hK163 _ _ ?_
            try clear hK163 K163
            refine wp_seq_k (fun K166 hK166 => ?_)
            refine wp_reg mixed [] hst (fun _ => .p rfl (op_assign .k) <| .nil _ _) (by kernel_rfl) (fun n18 a w hst => ?_)
            replace hst : St M w0 174 [(10, ti (0:Int)), (9, ti s27.1), (8, tv v28), (5, tsl (rSl rI) t24.1), (3, ti t17.1)] [own rSDiff 72 s27.2 v28] a w := (hst.pick [0, 2, 3, 4, 5])
            refine hK166 _ _ ?_
            try clear hK166 K166
            obtain ⟨e169, he169, h⟩ := bind_some h
            have hJp224 : ∀ (p224 : List SDiff) (v225 : Value) a w, (.inl p224) = e169 → St M w0 174 [(9, ti s27.1), (8, tv v225), (5, tsl (rSl rI) t24.1), (3, ti t17.1)] [own rSDiff 72 p224 v225] a w → K162 a w := by
              intro p224 v225 a w he hst
              subst he
              simp only at h
              refine hK162 _ _ ?_
              try clear hK162 K162
              refine wp_reg mixed [] hst (fun _ => .p rfl (op_move (.t 0 rfl)) <| .p rfl (op_add (.t 0 rfl) .k) <| .p rfl (op_assign (.t 0 rfl)) <| .nil _ _) (by kernel_rfl) (fun n15 a w hst => ?_)
              replace hst : St M w0 174 [(9, ti (IntKind.i64.wrap (s27.1 + (1:Int)))), (8, tv v225), (5, tsl (rSl rI) t24.1), (3, ti t17.1)] [own rSDiff 72 p224 v225] a w := (hst.pick [2, 3, 4, 5])
              exact hK159 _ _ _ (Option.some.inj h).symm ⟨v225, hst.pick [0, 1, 2, 3]⟩
            have hJp226 : ∀ (p226 : Bool) a w, (.inr p226) = e169 → St M w0 174 [(2, tb p226)] [] a w → Ret Try.prog Try.f11 M0 [] w0 (fun _ => []) (fun _ => tb r) .ret a w := by
              intro p226 a w he hst
              subst he
              simp only at h
              exact hJp156 _ _ _ (ho _ (Option.some.inj h).symm) (hst.pick [0])
            refine wp_block ?_
            refine wp_loopK _ (fun (s167 : Int × List SDiff) a w => ∃ v168 : Value, St M w0 174 [(10, ti s167.1), (9, ti s27.1), (8, tv v168), (5, tsl (rSl rI) t24.1), (3, ti t17.1)] [own rSDiff 72 s167.2 v168] a w) _ _ he169 ⟨v28, hst.pick [0, 1, 2, 3, 4]⟩ ?_
            clear h
            intro s167 o a w K227 hI h ho hK227
            obtain ⟨v168, hst⟩ := hI
            refine wp_seq_k (fun K228 hK228 => ?_)
            refine wp_seq_k (fun K229 hK229 => ?_)
            refine wp_reg mixed [] hst (fun _ => .p rfl (op_move (.t 0 rfl)) <| .p rfl (op_move (.t 5 rfl)) <| .p rfl (op_leq (.t 1 rfl) (.t 0 rfl)) <| .nil _ _) (by kernel_rfl) (fun n19 a w hst => ?_)
            replace hst : St M w0 174 [(72, tb (decide (s167.1 ≤ t17.1))), (10, ti s167.1), (9, ti s27.1), (8, tv v168), (5, tsl (rSl rI) t24.1), (3, ti t17.1)] [own rSDiff 72 s167.2 v168] a w := (hst.pick [2, 3, 4, 5, 6, 7])
            refine hK229 _ _ ?_
            try clear hK229 K229
            refine wp_test 0 hst rfl (fun b281 => ?_) (fun b281 => ?_)
            · replace h := ite_t b281 h
              refine wp_skip ?_
              refine hK228 _ _ ?_
              try clear hK228 K228
              refine wp_seq_k (fun K230 hK230 => ?_)
              refine wp_block ?_
              refine wp_seq_k (fun K231 hK231 => ?_)
              refine wp_seq_k (fun K232 hK232 => ?_)
              refine wp_reg mixed [] hst (fun _ => .p rfl (op_assign .k) <| .nil _ _) (by kernel_rfl) (fun n21 a w hst => ?_)
              replace hst : St M w0 174 [(11, ti (0:Int)), (10, ti s167.1), (9, ti s27.1), (8, tv v168), (5, tsl (rSl rI) t24.1), (3, ti t17.1)] [own rSDiff 72 s167.2 v168] a w := (hst.pick [0, 2, 3, 4, 5, 6])
              refine hK232 _ _ ?_
              try clear hK232 K232
              obtain ⟨e234, he234, h⟩ := bind_some h
              have hJp242 : ∀ (p242 : Unit) a w, (.inl p242) = e234 → St M w0 174 [(10, ti s167.1), (9, ti s27.1), (8, tv v168), (5, tsl (rSl rI) t24.1), (3, ti t17.1)] [own rSDiff 72 s167.2 v168] a w → K231 a w := by
                intro p242 a w he hst
                subst he
                simp only at h
                refine hK231 _ _ ?_
                try clear hK231 K231
                refine wp_seq_k (fun K244 hK244 => ?_)
                obtain ⟨t129, ht129, h⟩ := bind_some h
                obtain ⟨t132, ht132, h⟩ := bind_some h
                refine wp_reg mixed [] hst (fun _ => .p rfl (op_move (.t 1 rfl)) <| .p rfl (op_move (.t 1 rfl)) <| .p rfl (op_neq (.t 1 rfl) (.t 0 rfl)) <| .p rfl (op_move (.t 0 rfl)) <| .g rfl rfl (.b 0 rfl) (fun _ => op_move (.t 7 rfl)) <| .g rfl rfl (.b 1 rfl) (fun _ => op_move (.t 6 rfl)) <| .g rfl rfl (.b 2 rfl) (fun hc => op_index Try.underlying26 tok22 (.cond (.t 1 rfl) hc) (.cond (.t 0 rfl) hc) (opt_t ht129 hc)) <| .g rfl rfl (.b 3 rfl) (fun hc => op_load tok22 (.cond (.t 0 rfl) hc)) <| .g rfl rfl (.b 4 rfl) (fun _ => op_move (.t 8 rfl)) <| .g rfl rfl (.b 5 rfl) (fun hc => op_index Try.underlying22 tok3 (.cond (.t 1 rfl) hc) (.cond (.t 0 rfl) hc) (opt_t ht132 hc)) <| .g rfl rfl (.b 6 rfl) (fun hc => op_load tok3 (.cond (.t 0 rfl) hc)) <| .g rfl rfl (.b 7 rfl) (fun hc => op_lss (.cond (.t 0 rfl) hc) .k) <| .p rfl (op_and (.t 8 rfl) (fun hp => (.cond (.t 0 rfl) (beqT hp)))) <| .nil _ _) (by kernel_rfl) (fun n26 a w hst => ?_)
                replace hst : St M w0 174 [(135, tb ((s27.1 != s167.1) && (decide (t132 < (1099511627776:Int))))), (10, ti s167.1), (9, ti s27.1), (8, tv v168), (5, tsl (rSl rI) t24.1), (3, ti t17.1)] [own rSDiff 72 s167.2 v168] a w := (hst.pick [12, 13, 14, 15, 16, 17])
                refine hK244 _ _ ?_
                try clear hK244 K244
                obtain ⟨p245, hp245, h⟩ := bind_some h
                have hJp245 : ∀ (v259 : Value) a w, St M w0 174 [(8, tv v259), (10, ti s167.1), (9, ti s27.1), (5, tsl (rSl rI) t24.1), (3, ti t17.1)] [own rSDiff 72 p245 v259] a w → K230 a w := by
                  intro v259 a w hst
                  refine hK230 _ _ ?_
                  try clear hK230 K230
                  refine wp_reg mixed [] hst (fun _ => .p rfl (op_move (.t 1 rfl)) <| .p rfl (op_add (.t 0 rfl) .k) <| .p rfl (op_assign (.t 0 rfl)) <| .nil _ _) (by kernel_rfl) (fun n20 a w hst => ?_)
                  replace hst : St M w0 174 [(10, ti (IntKind.i64.wrap (s167.1 + (1:Int)))), (8, tv v259), (9, ti s27.1), (5, tsl (rSl rI) t24.1), (3, ti t17.1)] [own rSDiff 72 p245 v259] a w := (hst.pick [2, 3, 4, 5, 6])
                  exact hK227 _ _ _ (Option.some.inj h).symm ⟨v259, hst.pick [0, 2, 1, 3, 4]⟩
                replace h := hp245
                clear hp245
                refine wp_test 0 hst rfl (fun b272 => ?_) (fun b272 => ?_)
                · replace h := ite_t b272 h
                  refine wp_seq_k (fun K260 hK260 => ?_)
                  obtain ⟨t140, ht140, h⟩ := bind_some h
                  obtain ⟨t143, ht143, h⟩ := bind_some h
                  refine wp_reg mixed [v1 10 (fun v0 => box (rSDiff.cs (SDiff.mk (0:Int) (0:Int) (0:Int))) v0), v1 10 (fun v0 => box (rSDiff.cs (SDiff.mk s27.1 s167.1 t143)) v0)] hst (fun _ => .p rfl (op_move (.t 2 rfl)) <| .p rfl (op_move (.t 2 rfl)) <| .p rfl (op_move (.t 6 rfl)) <| .p rfl (op_move (.t 5 rfl)) <| .p rfl (op_index Try.underlying26 tok22 (.t 1 rfl) (.t 0 rfl) ht140) <| .p rfl (op_load tok22 (.t 0 rfl)) <| .p rfl (op_move (.t 7 rfl)) <| .p rfl (op_index Try.underlying22 tok3 (.t 1 rfl) (.t 0 rfl) ht143) <| .p rfl (op_load tok3 (.t 0 rfl)) <| .p (T := rSDiff.ty (SDiff.mk s27.1 s167.1 t143)) rfl (op_build Try.underlying72 pl72 zv72 zc72 (.cons (R := rI) (u := s27.1) rfl (.t 8 rfl) (Nat.le_of_ble_eq_true rfl) <| .cons (R := rI) (u := s167.1) rfl (.t 7 rfl) (Nat.le_of_ble_eq_true rfl) <| .cons (R := rI) (u := t143) rfl (.t 0 rfl) (Nat.le_of_ble_eq_true rfl) <| .nil _)) <| .m [] [1] rfl rfl rfl (op_alloc (R := rSDiff) (a := (SDiff.mk (0:Int) (0:Int) (0:Int))) tok72 zok72) <| .e [] [1] [2] rfl rfl rfl rfl (op_storeB (R := rSDiff) (a := (SDiff.mk s27.1 s167.1 t143)) tok72 (.t 0 rfl) (.t 1 rfl) (Nat.le_of_ble_eq_true rfl)) <| .nil _ _) (by kernel_rfl) (fun n27 a w hst => ?_)
                  replace hst : St M w0 174 [(12, tv (n27 10)), (10, ti s167.1), (9, ti s27.1), (8, tv v168), (5, tsl (rSl rI) t24.1), (3, ti t17.1)] [own rSDiff 72 s167.2 v168, box (rSDiff.cs (SDiff.mk s27.1 s167.1 t143)) (n27 10)] a w := (hst.pick [10, 12, 13, 14, 15, 16])
                  refine hK260 _ _ ?_
                  try clear hK260 K260
                  refine wp_seq_k (fun K262 hK262 => ?_)
                  refine wp_seq_k (fun K263 hK263 => ?_)
                  refine wp_reg mixed [] hst (fun _ => .p rfl (op_move (.t 2 rfl)) <| .p rfl (op_move (.t 6 rfl)) <| .p rfl (op_eql (.t 1 rfl) (.t 0 rfl)) <| .nil _ _) (by kernel_rfl) (fun n28 a w hst => ?_)
                  replace hst : St M w0 174 [(148, tb (s27.1 == t17.1)), (12, tv (n27 10)), (10, ti s167.1), (9, ti s27.1), (8, tv v168), (5, tsl (rSl rI) t24.1), (3, ti t17.1)] [own rSDiff 72 s167.2 v168, box (rSDiff.cs (SDiff.mk s27.1 s167.1 t143)) (n27 10)] a w := (hst.pick [2, 3, 4, 5, 6, 7, 8])
                  refine hK263 _ _ ?_
                  try clear hK263 K263
                  obtain ⟨p264, hp264, h⟩ := bind_some h
                  have hJp264 : ∀ a w, St M w0 174 [(12, tv (n27 10)), (10, ti s167.1), (9, ti s27.1), (8, tv v168), (5, tsl (rSl rI) t24.1), (3, ti t17.1)] [own rSDiff 72 s167.2 v168, box (rSDiff.cs p264) (n27 10)] a w → K262 a w := by
                    intro a w hst
                    refine hK262 _ _ ?_
                    try clear hK262 K262
                    refine wp_seq_k (fun K266 hK266 => ?_)
                    refine wp_seq_k (fun K267 hK267 => ?_)
                    refine wp_reg mixed [] hst (fun _ => .p rfl (op_move (.t 1 rfl)) <| .p rfl (op_move (.t 6 rfl)) <| .p rfl (op_eql (.t 1 rfl) (.t 0 rfl)) <| .nil _ _) (by kernel_rfl) (fun n30 a w hst => ?_)
                    replace hst : St M w0 174 [(152, tb (s167.1 == t17.1)), (12, tv (n27 10)), (10, ti s167.1), (9, ti s27.1), (8, tv v168), (5, tsl (rSl rI) t24.1), (3, ti t17.1)] [own rSDiff 72 s167.2 v168, box (rSDiff.cs p264) (n27 10)] a w := (hst.pick [2, 3, 4, 5, 6, 7, 8])
                    refine hK267 _ _ ?_
                    try clear hK267 K267
                    obtain ⟨p268, hp268, h⟩ := bind_some h
                    have hJp268 : ∀ a w, St M w0 174 [(12, tv (n27 10)), (10, ti s167.1), (9, ti s27.1), (8, tv v168), (5, tsl (rSl rI) t24.1), (3, ti t17.1)] [own rSDiff 72 s167.2 v168, box (rSDiff.cs p268) (n27 10)] a w → K266 a w := by
                      intro a w hst
                      refine hK266 _ _ ?_
                      try clear hK266 K266
                      obtain ⟨u157, hu157, h⟩ := bind_some h
                      refine wp_reg mixed [v1 3 (fun v0 => own rSDiff 72 (s167.2 ++ [p268]) v0)] hst (fun _ => .p rfl (op_move (.t 3 rfl)) <| .u [1] rfl rfl (op_loadB (R := rSDiff) (u := p268) tok72 (.t 1 rfl) rfl) <| .p rfl (op_buildSl (R := rSDiff) (us := [p268]) Try.underlying55 tok72 (.cons (.t 0 rfl) <| .nil _) rfl (Nat.le_of_ble_eq_true rfl)) <| .e [] [0] [2] rfl rfl rfl rfl (op_append (R := rSDiff) Try.underlying55 tok72 (Nat.le_of_ble_eq_true rfl) (.t 2 rfl) (.t 0 rfl) hu157) <| .ud (f := fun v => tv v) 3 rfl [] rfl rfl (op_assign (.t 0 rfl)) <| .nil _ _) (by kernel_rfl) (fun n32 a w hst => ?_)
                      replace hst : St M w0 174 [(157, tv (n32 3)), (8, tv (n32 3)), (10, ti s167.1), (9, ti s27.1), (5, tsl (rSl rI) t24.1), (3, ti t17.1)] [own rSDiff 72 (s167.2 ++ [p268]) (n32 3)] a w := ((hst.pick [3, 4, 6, 7, 8, 9]).selA [1] rfl)
                      obtain rfl := Option.some.inj h
                      exact hJp245 (n32 3) _ _ (hst.pick [1, 2, 3, 4, 5])
                    replace h := hp268
                    clear hp268
                    refine wp_test 0 hst rfl (fun b270 => ?_) (fun b270 => ?_)
                    · replace h := ite_t b270 h
                      refine wp_reg mixed [v0 (box (rSDiff.cs { p264 with B := (-1:Int) }) (n27 10))] hst (fun _ => .u [1] rfl rfl (op_fieldB fld72_1 (.t 1 rfl)) <| .e [] [1] [2] rfl rfl rfl rfl (op_storeBf (R := rI) (a := (-1:Int)) (Ts := rSDiff.cs p264) (off := 1) tok3 (.t 0 rfl) .k (Nat.le_of_ble_eq_true rfl)) <| .nil _ _) (by kernel_rfl) (fun n31 a w hst => ?_)
                      replace hst : St M w0 174 [(12, tv (n27 10)), (10, ti s167.1), (9, ti s27.1), (8, tv v168), (5, tsl (rSl rI) t24.1), (3, ti t17.1)] [own rSDiff 72 s167.2 v168, box (rSDiff.cs { p264 with B := (-1:Int) }) (n27 10)] a w := (hst.pick [2, 3, 4, 5, 6, 7])
                      obtain rfl := Option.some.inj h
                      exact hJp268 _ _ (hst.pick [0, 1, 2, 3, 4, 5])
                    · replace h := ite_f b270 h
                      refine wp_skip ?_
                      obtain rfl := Option.some.inj h
                      exact hJp268 _ _ (hst.pick [1, 2, 3, 4, 5, 6])
                  replace h := hp264
                  clear hp264
                  refine wp_test 0 hst rfl (fun b271 => ?_) (fun b271 => ?_)
                  · replace h := ite_t b271 h
                    refine wp_reg mixed [v0 (box (rSDiff.cs { (SDiff.mk s27.1 s167.1 t143) with A := (-1:Int) }) (n27 10))] hst (fun _ => .u [1] rfl rfl (op_fieldB fld72_0 (.t 1 rfl)) <| .e [] [1] [2] rfl rfl rfl rfl (op_storeBf (R := rI) (a := (-1:Int)) (Ts := rSDiff.cs (SDiff.mk s27.1 s167.1 t143)) (off := 0) tok3 (.t 0 rfl) .k (Nat.le_of_ble_eq_true rfl)) <| .nil _ _) (by kernel_rfl) (fun n29 a w hst => ?_)
                    replace hst : St M w0 174 [(12, tv (n27 10)), (10, ti s167.1), (9, ti s27.1), (8, tv v168), (5, tsl (rSl rI) t24.1), (3, ti t17.1)] [own rSDiff 72 s167.2 v168, box (rSDiff.cs { (SDiff.mk s27.1 s167.1 t143) with A := (-1:Int) }) (n27 10)] a w := (hst.pick [2, 3, 4, 5, 6, 7])
                    obtain rfl := Option.some.inj h
                    exact hJp264 _ _ (hst.pick [0, 1, 2, 3, 4, 5])
                  · replace h := ite_f b271 h
                    refine wp_skip ?_
                    obtain rfl := Option.some.inj h
                    exact hJp264 _ _ (hst.pick [1, 2, 3, 4, 5, 6])
                · replace h := ite_f b272 h
                  refine wp_skip ?_
                  obtain rfl := Option.some.inj h
                  exact hJp245 v168 _ _ (hst.pick [3, 1, 2, 4, 5])
              have hJp243 : ∀ (p243 : Bool) a w, (.inr p243) = e234 → St M w0 174 [(2, tb p243)] [] a w → Ret Try.prog Try.f11 M0 [] w0 (fun _ => []) (fun _ => tb r) .ret a w := by
                intro p243 a w he hst
                subst he
                simp only at h
                exact hJp226 _ _ _ (ho _ (Option.some.inj h).symm) (hst.pick [0])
              refine wp_block ?_
              refine wp_loopK _ (fun (s233 : Int) a w => St M w0 174 [(11, ti s233), (10, ti s167.1), (9, ti s27.1), (8, tv v168), (5, tsl (rSl rI) t24.1), (3, ti t17.1)] [own rSDiff 72 s167.2 v168] a w) _ _ he234 (hst.pick [0, 1, 2, 3, 4, 5]) ?_
              clear h
              intro s233 o a w K273 hI h ho hK273
              have hst := hI
              clear hI
              refine wp_seq_k (fun K274 hK274 => ?_)
              refine wp_seq_k (fun K275 hK275 => ?_)
              refine wp_reg mixed [] hst (fun _ => .p rfl (op_move (.t 0 rfl)) <| .p rfl (op_move (.t 6 rfl)) <| .p rfl (op_leq (.t 1 rfl) (.t 0 rfl)) <| .nil _ _) (by kernel_rfl) (fun n22 a w hst => ?_)
              replace hst : St M w0 174 [(77, tb (decide (s233 ≤ t17.1))), (11, ti s233), (10, ti s167.1), (9, ti s27.1), (8, tv v168), (5, tsl (rSl rI) t24.1), (3, ti t17.1)] [own rSDiff 72 s167.2 v168] a w := (hst.pick [2, 3, 4, 5, 6, 7, 8])
              refine hK275 _ _ ?_
              try clear hK275 K275
              refine wp_test 0 hst rfl (fun b280 => ?_) (fun b280 => ?_)
              · replace h := ite_t b280 h
                refine wp_skip ?_
                refine hK274 _ _ ?_
                try clear hK274 K274
                refine wp_seq_k (fun K276 hK276 => ?_)
                refine wp_block ?_
                refine wp_seq_k (fun K277 hK277 => ?_)
                obtain ⟨t82, ht82, h⟩ := bind_some h
                obtain ⟨t85, ht85, h⟩ := bind_some h
                obtain ⟨t91, ht91, h⟩ := bind_some h
                obtain ⟨t94, ht94, h⟩ := bind_some h
                obtain ⟨t101, ht101, h⟩ := bind_some h
                obtain ⟨t104, ht104, h⟩ := bind_some h
                obtain ⟨t108, ht108, h⟩ := bind_some h
                obtain ⟨t111, ht111, h⟩ := bind_some h
                obtain ⟨t115, ht115, h⟩ := bind_some h
                obtain ⟨t118, ht118, h⟩ := bind_some h
                refine wp_reg mixed [] hst (fun _ => .p rfl (op_move (.t 5 rfl)) <| .p rfl (op_move (.t 4 rfl)) <| .p rfl (op_index Try.underlying26 tok22 (.t 1 rfl) (.t 0 rfl) ht82) <| .p rfl (op_load tok22 (.t 0 rfl)) <| .p rfl (op_move (.t 5 rfl)) <| .p rfl (op_index Try.underlying22 tok3 (.t 1 rfl) (.t 0 rfl) ht85) <| .p rfl (op_load tok3 (.t 0 rfl)) <| .p rfl (op_lss (.t 0 rfl) .k) <| .p rfl (op_move (.t 0 rfl)) <| .g rfl rfl (.b 0 rfl) (fun _ => op_move (.t 14 rfl)) <| .g rfl rfl (.b 1 rfl) (fun _ => op_move (.t 11 rfl)) <| .g rfl rfl (.b 2 rfl) (fun hc => op_index Try.underlying26 tok22 (.cond (.t 1 rfl) hc) (.cond (.t 0 rfl) hc) (opt_t ht91 hc)) <| .g rfl rfl (.b 3 rfl) (fun hc => op_load tok22 (.cond (.t 0 rfl) hc)) <| .g rfl rfl (.b 4 rfl) (fun _ => op_move (.t 15 rfl)) <| .g rfl rfl (.b 5 rfl) (fun hc => op_index Try.underlying22 tok3 (.cond (.t 1 rfl) hc) (.cond (.t 0 rfl) hc) (opt_t ht94 hc)) <| .g rfl rfl (.b 6 rfl) (fun hc => op_load tok3 (.cond (.t 0 rfl) hc)) <| .g rfl rfl (.b 7 rfl) (fun hc => op_lss (.cond (.t 0 rfl) hc) .k) <| .p rfl (op_and (.t 8 rfl) (fun hp => (.cond (.t 0 rfl) (beqT hp)))) <| .p rfl (op_move (.t 0 rfl)) <| .g rfl rfl (.b 0 rfl) (fun _ => op_move (.t 24 rfl)) <| .g rfl rfl (.b 1 rfl) (fun _ => op_move (.t 23 rfl)) <| .g rfl rfl (.b 2 rfl) (fun hc => op_index Try.underlying26 tok22 (.cond (.t 1 rfl) hc) (.cond (.t 0 rfl) hc) (opt_t ht101 hc)) <| .g rfl rfl (.b 3 rfl) (fun hc => op_load tok22 (.cond (.t 0 rfl) hc)) <| .g rfl rfl (.b 4 rfl) (fun _ => op_move (.t 25 rfl)) <| .g rfl rfl (.b 5 rfl) (fun hc => op_index Try.underlying22 tok3 (.cond (.t 1 rfl) hc) (.cond (.t 0 rfl) hc) (opt_t ht104 hc)) <| .g rfl rfl (.b 6 rfl) (fun hc => op_load tok3 (.cond (.t 0 rfl) hc)) <| .g rfl rfl (.b 7 rfl) (fun _ => op_move (.t 31 rfl)) <| .g rfl rfl (.b 8 rfl) (fun _ => op_move (.t 30 rfl)) <| .g rfl rfl (.b 9 rfl) (fun hc => op_index Try.underlying26 tok22 (.cond (.t 1 rfl) hc) (.cond (.t 0 rfl) hc) (opt_t ht108 hc)) <| .g rfl rfl (.b 10 rfl) (fun hc => op_load tok22 (.cond (.t 0 rfl) hc)) <| .g rfl rfl (.b 11 rfl) (fun _ => op_move (.t 31 rfl)) <| .g rfl rfl (.b 12 rfl) (fun hc => op_index Try.underlying22 tok3 (.cond (.t 1 rfl) hc) (.cond (.t 0 rfl) hc) (opt_t ht111 hc)) <| .g rfl rfl (.b 13 rfl) (fun hc => op_load tok3 (.cond (.t 0 rfl) hc)) <| .g rfl rfl (.b 14 rfl) (fun _ => op_move (.t 38 rfl)) <| .g rfl rfl (.b 15 rfl) (fun _ => op_move (.t 35 rfl)) <| .g rfl rfl (.b 16 rfl) (fun hc => op_index Try.underlying26 tok22 (.cond (.t 1 rfl) hc) (.cond (.t 0 rfl) hc) (opt_t ht115 hc)) <| .g rfl rfl (.b 17 rfl) (fun hc => op_load tok22 (.cond (.t 0 rfl) hc)) <| .g rfl rfl (.b 18 rfl) (fun _ => op_move (.t 39 rfl)) <| .g rfl rfl (.b 19 rfl) (fun hc => op_index Try.underlying22 tok3 (.cond (.t 1 rfl) hc) (.cond (.t 0 rfl) hc) (opt_t ht118 hc)) <| .g rfl rfl (.b 20 rfl) (fun hc => op_load tok3 (.cond (.t 0 rfl) hc)) <| .g rfl rfl (.b 21 rfl) (fun hc => op_add (.cond (.t 7 rfl) hc) (.cond (.t 0 rfl) hc)) <| .g rfl rfl (.b 22 rfl) (fun hc => op_gtr (.cond (.t 15 rfl) hc) (.cond (.t 0 rfl) hc)) <| .p rfl (op_and (.t 23 rfl) (fun hp => (.cond (.t 0 rfl) (beqT hp)))) <| .nil _ _) (by kernel_rfl) (fun n24 a w hst => ?_)
                replace hst : St M w0 174 [(122, tb (((decide (t85 < (1099511627776:Int))) && (decide (t94 < (1099511627776:Int)))) && (decide (t104 > (IntKind.i64.wrap (t111 + t118)))))), (11, ti s233), (10, ti s167.1), (9, ti s27.1), (8, tv v168), (5, tsl (rSl rI) t24.1), (3, ti t17.1)] [own rSDiff 72 s167.2 v168] a w := (hst.pick [42, 44, 45, 46, 47, 48, 49])
                refine hK277 _ _ ?_
                try clear hK277 K277
                refine wp_test 0 hst rfl (fun b279 => ?_) (fun b279 => ?_)
                · replace h := ite_t b279 h
                  refine wp_seq_k (fun K278 hK278 => ?_)
                  refine wp_reg mixed [] hst (fun _ => .p rfl (op_assign .k) <| .nil _ _) (by kernel_rfl) (fun n25 a w hst => ?_)
                  replace hst : St M w0 174 [(2, tb false), (8, tv v168)] [own rSDiff 72 s167.2 v168] a w := (hst.pick [0, 5])
                  refine hK278 _ _ ?_
                  try clear hK278 K278
                  refine wp_ret ?_
                  exact hJp243 _ _ _ (ho _ (Option.some.inj h).symm) ((hst.pick [0]).selA [] rfl)
                · replace h := ite_f b279 h
                  refine wp_skip ?_
                  refine hK276 _ _ ?_
                  try clear hK276 K276
                  refine wp_reg mixed [] hst (fun _ => .p rfl (op_move (.t 1 rfl)) <| .p rfl (op_add (.t 0 rfl) .k) <| .p rfl (op_assign (.t 0 rfl)) <| .nil _ _) (by kernel_rfl) (fun n23 a w hst => ?_)
                  replace hst : St M w0 174 [(11, ti (IntKind.i64.wrap (s233 + (1:Int)))), (10, ti s167.1), (9, ti s27.1), (8, tv v168), (5, tsl (rSl rI) t24.1), (3, ti t17.1)] [own rSDiff 72 s167.2 v168] a w := (hst.pick [2, 4, 5, 6, 7, 8])
                  exact hK273 _ _ _ (Option.some.inj h).symm (hst.pick [0, 1, 2, 3, 4, 5])
              · replace h := ite_f b280 h
                refine wp_exit ?_
                exact hJp242 _ _ _ (ho _ (Option.some.inj h).symm) (hst.pick [2, 3, 4, 5, 6])
            · replace h := ite_f b281 h
              refine wp_exit ?_
              exact hJp224 _ v168 _ _ (ho _ (Option.some.inj h).symm) (hst.pick [2, 3, 4, 5])
        · replace h := ite_f b283 h
          refine wp_exit ?_
          exact hJp154 _ v28 _ _ (ho _ (Option.some.inj h).symm) (hst.pick [2, 3, 4])
      have hJp22 : ∀ (p22 : Bool) a w, (.inr p22) = e13 → St M w0 174 [(2, tb p22)] [] a w → Ret Try.prog Try.f11 M0 [] w0 (fun _ => []) (fun _ => tb r) .ret a w := by
        intro p22 a w he hst
        subst he
        simp only at h
        obtain rfl := Option.some.inj h
        exact ret_st undef [] hpl hst rfl (.tmp (.t 0 rfl) .nil) rfl rfl rfl
      refine wp_block ?_
      refine wp_loopK _ (fun (s12 : Int) a w => St M w0 174 [(7, ti s12), (5, tsl (rSl rI) t24.1), (3, ti t17.1)] [] a w) _ _ he13 (hst.pick [0, 1, 2]) ?_
      clear h
      intro s12 o a w K284 hI h ho hK284
      have hst := hI
      clear hI
      refine wp_seq_k (fun K285 hK285 => ?_)
      refine wp_seq_k (fun K286 hK286 => ?_)
      refine wp_reg mixed [] hst (fun _ => .p rfl (op_move (.t 0 rfl)) <| .p rfl (op_move (.t 3 rfl)) <| .p rfl (op_leq (.t 1 rfl) (.t 0 rfl)) <| .nil _ _) (by kernel_rfl) (fun n8 a w hst => ?_)
      replace hst : St M w0 174 [(46, tb (decide (s12 ≤ t17.1))), (7, ti s12), (5, tsl (rSl rI) t24.1), (3, ti t17.1)] [] a w := (hst.pick [2, 3, 4, 5])
      refine hK286 _ _ ?_
      try clear hK286 K286
      refine wp_test 0 hst rfl (fun b291 => ?_) (fun b291 => ?_)
      · replace h := ite_t b291 h
        refine wp_skip ?_
        refine hK285 _ _ ?_
        try clear hK285 K285
        refine wp_seq_k (fun K287 hK287 => ?_)
        refine wp_block ?_
        refine wp_seq_k (fun K288 hK288 => ?_)
        obtain ⟨t51, ht51, h⟩ := bind_some h
        refine wp_reg mixed [] hst (fun _ => .p rfl (op_move (.t 2 rfl)) <| .p rfl (op_move (.t 2 rfl)) <| .p rfl (op_index Try.underlying26 tok22 (.t 1 rfl) (.t 0 rfl) ht51) <| .p rfl (op_load tok22 (.t 0 rfl)) <| .p rfl (op_len Try.underlying22 (.t 0 rfl)) <| .p rfl (op_move (.t 8 rfl)) <| .p rfl (op_add (.t 0 rfl) .k) <| .p rfl (op_neq (.t 2 rfl) (.t 0 rfl)) <| .nil _ _) (by kernel_rfl) (fun n10 a w hst => ?_)
        replace hst : St M w0 174 [(56, tb ((t51.length : Int) != (IntKind.i64.wrap (t17.1 + (1:Int))))), (7, ti s12), (5, tsl (rSl rI) t24.1), (3, ti t17.1)] [] a w := (hst.pick [7, 9, 10, 11])
        refine hK288 _ _ ?_
        try clear hK288 K288
        refine wp_test 0 hst rfl (fun b290 => ?_) (fun b290 => ?_)
        · replace h := ite_t b290 h
          refine wp_seq_k (fun K289 hK289 => ?_)
          refine wp_reg mixed [] hst (fun _ => .p rfl (op_assign .k) <| .nil _ _) (by kernel_rfl) (fun n11 a w hst => ?_)
          replace hst : St M w0 174 [(2, tb false)] [] a w := (hst.pick [0])
          refine hK289 _ _ ?_
          try clear hK289 K289
          refine wp_ret ?_
          exact hJp22 _ _ _ (ho _ (Option.some.inj h).symm) (hst.pick [0])
        · replace h := ite_f b290 h
          refine wp_skip ?_
          refine hK287 _ _ ?_
          try clear hK287 K287
          refine wp_reg mixed [] hst (fun _ => .p rfl (op_move (.t 1 rfl)) <| .p rfl (op_add (.t 0 rfl) .k) <| .p rfl (op_assign (.t 0 rfl)) <| .nil _ _) (by kernel_rfl) (fun n9 a w hst => ?_)
          replace hst : St M w0 174 [(7, ti (IntKind.i64.wrap (s12 + (1:Int)))), (5, tsl (rSl rI) t24.1), (3, ti t17.1)] [] a w := (hst.pick [2, 4, 5])
          exact hK284 _ _ _ (Option.some.inj h).symm (hst.pick [0, 1, 2])
      · replace h := ite_f b291 h
        refine wp_exit ?_
        exact hJp21 _ _ _ (ho _ (Option.some.inj h).symm) (hst.pick [2, 3])


end Go.Proofs.Ytjniiejgccdhiaa
