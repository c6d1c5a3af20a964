/- Go functions as Lean functions, and the proofs that they compute them, written by a program. No condition. -/
import Derived.Test.YtjniiejgccdhiaaBenF
namespace Go.Proofs.Ytjniiejgccdhiaa
open Go.Sim

/- diorama/dioramalaw14.BoundsRanges -/
noncomputable def fBoundsRanges (l_ : (List Int)) (values_ : (List Int)) (at_ : Int) (by_ : Int) (raw_ : (List (List Int))) : Option (Bool) := (fMade14 l_).bind fun t30 => (fCloseR t30.1 t30.2).bind fun t36 => (tailrec (fun (s9 : Int × List (List Int)) => ((if (decide (s9.1 < (t36.1.length : Int))) = true then (idx t36.1 s9.1).bind fun t49 => (rm (([] : List Int).length + t49.length)).bind fun _ => (rm (s9.2.length + 1)).bind fun _ => (some (.inl ((IntKind.i64.wrap (s9.1 + (1:Int))), (s9.2 ++ [(([] : List Int) ++ t49)])))) else (some (.inr s9.2))) : Option ((Int × List (List Int)) ⊕ ((List (List Int)))))) ((0:Int), ([] : List (List Int)))).bind fun (p18 : (List (List Int))) => ((if (decide ((p18.length : Int) > (0:Int))) = true then (fAround at_ (p18.length : Int)).bind fun t61 => (idx p18 t61).bind fun r110 => (fAround (IntKind.i64.wrap (Int.tdiv at_ (11:Int))) (p18.length : Int)).bind fun t68 => (fAround by_ (5:Int)).bind fun t72 => (idx [by_, (1099511627776:Int), (-1099511627776:Int), (1099511627777:Int), (0:Int)] t72).bind fun t73 => (setAt r110 t68 t73).bind fun t75s => (setAt p18 t61 t75s).bind fun m111 => (some m111) else (some p18))).bind fun (p23 : List (List Int)) => (tailrec (fun (s31 : Int × List (List Int)) => ((if ((decide (s31.1 < (raw_.length : Int))) && (decide (s31.1 < (12:Int)))) = true then (idx raw_ s31.1).bind fun t89 => (fTake t89 (12:Int)).bind fun t91 => (rm (s31.2.length + [t91].length)).bind fun _ => (some (.inl ((IntKind.i64.wrap (s31.1 + (1:Int))), (s31.2 ++ [t91])))) else (some (.inr s31.2))) : Option ((Int × List (List Int)) ⊕ ((List (List Int)))))) ((0:Int), ([] : List (List Int)))).bind fun (p38 : (List (List Int))) => (tailrec (fun (s43 : Int) => ((if (decide (s43 < ([t36.1, p23, p38, ([] : (List (List Int)))].length : Int))) = true then (tailrec (fun (s81 : Int) => ((if ((decide (s81 ≤ (values_.length : Int))) && (decide (s81 < (8:Int)))) = true then (idx [t36.1, p23, p38, ([] : (List (List Int)))] s43).bind fun t117 => (sub values_ (0:Int) s81).bind fun t121 => (fRange t117 t121).bind fun t122 => (idx [t36.1, p23, p38, ([] : (List (List Int)))] s43).bind fun t129 => (sub values_ (0:Int) s81).bind fun t133 => (fRangeR t129 t133).bind fun t134 => (if (((t122.1 != t134.1) || (t122.2.1 != t134.2.1)) || (t122.2.2 != t134.2.2)) = true then (some (.inr (.inr false))) else (some (.inl (IntKind.i64.wrap (s81 + (1:Int)))))) else (some (.inr (.inl ())))) : Option ((Int) ⊕ ((Unit) ⊕ (Bool))))) (0:Int)).bind fun (e82 : (Unit) ⊕ (Bool)) => (match e82 with | .inl p92 => (some (.inl (IntKind.i64.wrap (s43 + (1:Int))))) | .inr p93 => (some (.inr (.inr p93)))) else (some (.inr (.inl ())))) : Option ((Int) ⊕ ((Unit) ⊕ (Bool))))) (0:Int)).bind fun (e44 : (Unit) ⊕ (Bool)) => (match e44 with | .inl p73 => (flives14).bind fun t151 => (some t151) | .inr p74 => (some p74))
set_option maxRecDepth 100000 in
set_option maxHeartbeats 4000000 in
theorem BoundsRanges_ok {l_ : (List Int)} {values_ : (List Int)} {at_ : Int} {by_ : Int} {raw_ : (List (List Int))} {r : Bool} (h : fBoundsRanges l_ values_ at_ by_ raw_ = some r) : FnOk Try.prog 7 [tsl rI l_, tsl rI values_, ti at_, ti by_, tsl (rSl rI) raw_] [] (fun _ => []) (fun _ => tb r) := by
  unfold fBoundsRanges at h
  refine FnOk.enter Try.func7 rfl Try.ntmps7 (Nat.le_of_ble_eq_true rfl) (fun M0 M w0 a hpl hst => ?_)
  replace hst : St M w0 152 [(0, tsl rI l_), (1, tsl rI values_), (2, ti at_), (3, ti by_), (4, tsl (rSl rI) raw_)] [] a w0 := hst
  refine wp_seq_k (fun K1 hK1 => ?_)
  refine wp_reg mixed [] hst (fun _ => .p rfl (op_assign .k) <| .nil _ _) (by kernel_rfl) (fun n0 a w hst => ?_)
  replace hst : St M w0 152 [(0, tsl rI l_), (1, tsl rI values_), (2, ti at_), (3, ti by_), (4, tsl (rSl rI) raw_)] [] a w := (hst.pick [1, 2, 3, 4, 5])
  refine hK1 _ _ ?_
  try clear hK1 K1
  refine wp_seq_k (fun K2 hK2 => ?_)
  obtain ⟨t30, ht30, h⟩ := bind_some h
  refine wp_reg mixed [] hst (fun _ => .p rfl (op_move (.t 0 rfl)) <| .p rfl (op_callF call29 ((Made14_ok ht30).ro ro_tup1) (.cons (.of (.t 0 rfl)) <| .nil)) <| .p rfl (op_move (.t 0 rfl)) <| .p rfl (op_extract (.t 0 rfl) rfl) <| .p rfl (op_extract (.t 1 rfl) rfl) <| .p rfl (op_assign (.t 1 rfl)) <| .p rfl (op_assign (.t 1 rfl)) <| .nil _ _) (by kernel_rfl) (fun n1 a w hst => ?_)
  replace hst : St M w0 152 [(11, ti t30.1), (12, tsl rSDiff t30.2), (1, tsl rI values_), (2, ti at_), (3, ti by_), (4, tsl (rSl rI) raw_)] [] a w := (hst.pick [5, 6, 8, 9, 10, 11])
  refine hK2 _ _ ?_
  try clear hK2 K2
  refine wp_seq_k (fun K3 hK3 => ?_)
  obtain ⟨t36, ht36, h⟩ := bind_some h
  refine wp_reg mixed [] hst (fun _ => .p rfl (op_move (.t 0 rfl)) <| .p rfl (op_move (.t 2 rfl)) <| .p rfl (op_callF call33 (CloseR_ok ht36) (.cons (.of (.t 1 rfl)) <| .cons (.of (.t 0 rfl)) <| .nil)) <| .p rfl (op_move (.t 0 rfl)) <| .p rfl (op_extract (.t 0 rfl) rfl) <| .p rfl (op_extract (.t 1 rfl) rfl) <| .p rfl (op_assign (.t 1 rfl)) <| .p rfl (op_assign (.t 1 rfl)) <| .nil _ _) (by kernel_rfl) (fun n2 a w hst => ?_)
  replace hst : St M w0 152 [(13, tsl (rSl rI) t36.1), (1, tsl rI values_), (2, ti at_), (3, ti by_), (4, tsl (rSl rI) raw_)] [] a w := (hst.pick [6, 10, 11, 12, 13])
  refine hK3 _ _ ?_
  try clear hK3 K3
  refine wp_seq_k (fun K4 hK4 => ?_)
  refine wp_reg mixed [] hst (fun _ => .p rfl (op_assign .k) <| .nil _ _) (by kernel_rfl) (fun n3 a w hst => ?_)
  replace hst : St M w0 152 [(15, tv (.slice none 0 0)), (13, tsl (rSl rI) t36.1), (1, tsl rI values_), (2, ti at_), (3, ti by_), (4, tsl (rSl rI) raw_)] [rows rI 3 ([] : List (List Int)) ([] : List Value), own rVal 22 ([] : List Value) (.slice none 0 0)] a w := (((hst.pick [0, 1, 2, 3, 4, 5]).nil rVal 22).rowsN (rI) 3)
  refine hK4 _ _ ?_
  try clear hK4 K4
  refine wp_seq_k (fun K7 hK7 => ?_)
  refine wp_seq_k (fun K8 hK8 => ?_)
  refine wp_reg mixed [] hst (fun _ => .p rfl (op_assign .k) <| .nil _ _) (by kernel_rfl) (fun n4 a w hst => ?_)
  replace hst : St M w0 152 [(16, ti (0:Int)), (15, tv (.slice none 0 0)), (13, tsl (rSl rI) t36.1), (1, tsl rI values_), (2, ti at_), (3, ti by_), (4, tsl (rSl rI) raw_)] [rows rI 3 ([] : List (List Int)) ([] : List Value), own rVal 22 ([] : List Value) (.slice none 0 0)] a w := (hst.pick [0, 1, 2, 3, 4, 5, 6])
  refine hK8 _ _ ?_
  try clear hK8 K8
  obtain ⟨e12, he12, h⟩ := bind_some h
  have hJp18 : ∀ (p18 : List (List Int)) (us19 : List Value) (v20 : Value) a w, p18 = e12 → St M w0 152 [(15, tv v20), (13, tsl (rSl rI) t36.1), (1, tsl rI values_), (2, ti at_), (3, ti by_), (4, tsl (rSl rI) raw_)] [rows rI 3 p18 us19, own rVal 22 us19 v20] a w → K7 a w := by
    intro p18 us19 v20 a w he hst
    subst he
    refine hK7 _ _ ?_
    try clear hK7 K7
    refine wp_seq_k (fun K21 hK21 => ?_)
    refine wp_seq_k (fun K22 hK22 => ?_)
    refine wp_reg mixed [] hst (fun _ => .p rfl (op_move (.t 0 rfl)) <| .u [1, 0] rfl rfl (op_lenT Try.underlying26 (.t 0 rfl)) <| .p rfl (op_gtr (.t 0 rfl) .k) <| .nil _ _) (by kernel_rfl) (fun n8 a w hst => ?_)
    replace hst : St M w0 152 [(54, tv v20), (56, tb (decide ((p18.length : Int) > (0:Int)))), (15, tv v20), (13, tsl (rSl rI) t36.1), (1, tsl rI values_), (2, ti at_), (3, ti by_), (4, tsl (rSl rI) raw_)] [rows rI 3 p18 us19, own rVal 22 us19 v20] a w := (hst.pick [0, 2, 3, 4, 5, 6, 7, 8])
    refine hK22 _ _ ?_
    try clear hK22 K22
    obtain ⟨p23, hp23, h⟩ := bind_some h
    have hJp23 : ∀ a w, St M w0 152 [(15, tv v20), (13, tsl (rSl rI) t36.1), (1, tsl rI values_), (4, tsl (rSl rI) raw_)] [own rVal 22 us19 v20, rows rI 3 p23 us19] a w → K21 a w := by
      intro a w hst
      refine hK21 _ _ ?_
      try clear hK21 K21
      refine wp_seq_k (fun K27 hK27 => ?_)
      refine wp_reg mixed [] hst (fun _ => .p rfl (op_assign .k) <| .nil _ _) (by kernel_rfl) (fun n10 a w hst => ?_)
      replace hst : St M w0 152 [(17, tv (.slice none 0 0)), (15, tv v20), (13, tsl (rSl rI) t36.1), (1, tsl rI values_), (4, tsl (rSl rI) raw_)] [own (rSl rI) 22 ([] : List (List Int)) (.slice none 0 0), own rVal 22 us19 v20, rows rI 3 p23 us19] a w := ((hst.pick [0, 1, 2, 3, 4]).nil ((rSl rI)) 22)
      refine hK27 _ _ ?_
      try clear hK27 K27
      refine wp_seq_k (fun K29 hK29 => ?_)
      refine wp_seq_k (fun K30 hK30 => ?_)
      refine wp_reg mixed [] hst (fun _ => .p rfl (op_assign .k) <| .nil _ _) (by kernel_rfl) (fun n11 a w hst => ?_)
      replace hst : St M w0 152 [(18, ti (0:Int)), (17, tv (.slice none 0 0)), (15, tv v20), (13, tsl (rSl rI) t36.1), (1, tsl rI values_), (4, tsl (rSl rI) raw_)] [own (rSl rI) 22 ([] : List (List Int)) (.slice none 0 0), own rVal 22 us19 v20, rows rI 3 p23 us19] a w := (hst.pick [0, 1, 2, 3, 4, 5])
      refine hK30 _ _ ?_
      try clear hK30 K30
      obtain ⟨e33, he33, h⟩ := bind_some h
      have hJp38 : ∀ (p38 : List (List Int)) (v39 : Value) a w, p38 = e33 → St M w0 152 [(17, tv v39), (15, tv v20), (13, tsl (rSl rI) t36.1), (1, tsl rI values_)] [own (rSl rI) 22 p38 v39, own rVal 22 us19 v20, rows rI 3 p23 us19] a w → K29 a w := by
        intro p38 v39 a w he hst
        subst he
        refine hK29 _ _ ?_
        try clear hK29 K29
        refine wp_seq_k (fun K40 hK40 => ?_)
        replace hst : St M w0 152 [(15, tsl (rSl rI) p23), (17, tv v39), (13, tsl (rSl rI) t36.1), (1, tsl rI values_)] [own (rSl rI) 22 p38 v39] a w := (((hst.selA [1, 2, 0] rfl).shareT 1 rfl).pick [0, 1, 3, 4])
        replace hst : St M w0 152 [(17, tsl (rSl rI) p38), (15, tsl (rSl rI) p23), (13, tsl (rSl rI) t36.1), (1, tsl rI values_)] [] a w := ((hst.shareO 1 rfl).pick [0, 1, 3, 4])
        refine wp_reg mixed [] hst (fun _ => .p rfl (op_move (.t 2 rfl)) <| .p rfl (op_move (.t 2 rfl)) <| .p rfl (op_move (.t 2 rfl)) <| .p rfl (op_buildSl (R := (rSl (rSl rI))) (us := [t36.1, p23, p38, ([] : (List (List Int)))]) Try.underlying34 tok26 (.cons (.t 2 rfl) <| .cons (.t 1 rfl) <| .cons (.t 0 rfl) <| .cons .nilsl <| .nil _) rfl (Nat.le_of_ble_eq_true rfl)) <| .p rfl (op_assign (.t 0 rfl)) <| .nil _ _) (by kernel_rfl) (fun n15 a w hst => ?_)
        replace hst : St M w0 152 [(19, tsl (rSl (rSl rI)) [t36.1, p23, p38, ([] : (List (List Int)))]), (1, tsl rI values_)] [] a w := (hst.pick [4, 8])
        refine hK40 _ _ ?_
        try clear hK40 K40
        refine wp_seq_k (fun K41 hK41 => ?_)
        refine wp_seq_k (fun K42 hK42 => ?_)
        refine wp_reg mixed [] hst (fun _ => .p rfl (op_assign .k) <| .nil _ _) (by kernel_rfl) (fun n16 a w hst => ?_)
        replace hst : St M w0 152 [(20, ti (0:Int)), (19, tsl (rSl (rSl rI)) [t36.1, p23, p38, ([] : (List (List Int)))]), (1, tsl rI values_)] [] a w := (hst.pick [0, 1, 2])
        refine hK42 _ _ ?_
        try clear hK42 K42
        obtain ⟨e44, he44, h⟩ := bind_some h
        have hJp73 : ∀ (p73 : Unit) a w, (.inl p73) = e44 → St M w0 152 [] [] a w → K41 a w := by
          intro p73 a w he hst
          subst he
          simp only at h
          refine hK41 _ _ ?_
          try clear hK41 K41
          refine wp_seq_k (fun K75 hK75 => ?_)
          obtain ⟨t151, ht151, h⟩ := bind_some h
          refine wp_reg mixed [] hst (fun _ => .p rfl (op_callF call37 (lives14_ok ht151) (.nil)) <| .p rfl (op_assign (.t 0 rfl)) <| .nil _ _) (by kernel_rfl) (fun n26 a w hst => ?_)
          replace hst : St M w0 152 [(10, tb t151)] [] a w := (hst.pick [1])
          refine hK75 _ _ ?_
          try clear hK75 K75
          refine wp_ret ?_
          obtain rfl := Option.some.inj h
          exact ret_st undef [] hpl hst rfl (.tmp (.t 0 rfl) .nil) rfl rfl rfl
        have hJp74 : ∀ (p74 : Bool) a w, (.inr p74) = e44 → St M w0 152 [(10, tb p74)] [] a w → Ret Try.prog Try.f7 M0 [] w0 (fun _ => []) (fun _ => tb r) .ret a w := by
          intro p74 a w he hst
          subst he
          simp only at h
          obtain rfl := Option.some.inj h
          exact ret_st undef [] hpl hst rfl (.tmp (.t 0 rfl) .nil) rfl rfl rfl
        refine wp_block ?_
        refine wp_loopK _ (fun (s43 : Int) a w => St M w0 152 [(20, ti s43), (19, tsl (rSl (rSl rI)) [t36.1, p23, p38, ([] : (List (List Int)))]), (1, tsl rI values_)] [] a w) _ _ he44 (hst.pick [0, 1, 2]) ?_
        clear h
        intro s43 o a w K76 hI h ho hK76
        have hst := hI
        clear hI
        refine wp_seq_k (fun K77 hK77 => ?_)
        refine wp_seq_k (fun K78 hK78 => ?_)
        refine wp_reg mixed [] hst (fun _ => .p rfl (op_move (.t 0 rfl)) <| .p rfl (op_move (.t 2 rfl)) <| .p rfl (op_len Try.underlying34 (.t 0 rfl)) <| .p rfl (op_lss (.t 2 rfl) (.t 0 rfl)) <| .nil _ _) (by kernel_rfl) (fun n17 a w hst => ?_)
        replace hst : St M w0 152 [(101, tb (decide (s43 < ([t36.1, p23, p38, ([] : (List (List Int)))].length : Int)))), (20, ti s43), (19, tsl (rSl (rSl rI)) [t36.1, p23, p38, ([] : (List (List Int)))]), (1, tsl rI values_)] [] a w := (hst.pick [3, 4, 5, 6])
        refine hK78 _ _ ?_
        try clear hK78 K78
        refine wp_test 0 hst rfl (fun b104 => ?_) (fun b104 => ?_)
        · replace h := ite_t b104 h
          refine wp_skip ?_
          refine hK77 _ _ ?_
          try clear hK77 K77
          refine wp_seq_k (fun K79 hK79 => ?_)
          refine wp_block ?_
          refine wp_seq_k (fun K80 hK80 => ?_)
          refine wp_reg mixed [] hst (fun _ => .p rfl (op_assign .k) <| .nil _ _) (by kernel_rfl) (fun n19 a w hst => ?_)
          replace hst : St M w0 152 [(21, ti (0:Int)), (20, ti s43), (19, tsl (rSl (rSl rI)) [t36.1, p23, p38, ([] : (List (List Int)))]), (1, tsl rI values_)] [] a w := (hst.pick [0, 2, 3, 4])
          refine hK80 _ _ ?_
          try clear hK80 K80
          obtain ⟨e82, he82, h⟩ := bind_some h
          have hJp92 : ∀ (p92 : Unit) a w, (.inl p92) = e82 → St M w0 152 [(20, ti s43), (19, tsl (rSl (rSl rI)) [t36.1, p23, p38, ([] : (List (List Int)))]), (1, tsl rI values_)] [] a w → K79 a w := by
            intro p92 a w he hst
            subst he
            simp only at h
            refine hK79 _ _ ?_
            try clear hK79 K79
            refine wp_reg mixed [] hst (fun _ => .p rfl (op_move (.t 0 rfl)) <| .p rfl (op_add (.t 0 rfl) .k) <| .p rfl (op_assign (.t 0 rfl)) <| .nil _ _) (by kernel_rfl) (fun n18 a w hst => ?_)
            replace hst : St M w0 152 [(20, ti (IntKind.i64.wrap (s43 + (1:Int)))), (19, tsl (rSl (rSl rI)) [t36.1, p23, p38, ([] : (List (List Int)))]), (1, tsl rI values_)] [] a w := (hst.pick [2, 3, 4])
            exact hK76 _ _ _ (Option.some.inj h).symm (hst.pick [0, 1, 2])
          have hJp93 : ∀ (p93 : Bool) a w, (.inr p93) = e82 → St M w0 152 [(10, tb p93)] [] a w → Ret Try.prog Try.f7 M0 [] w0 (fun _ => []) (fun _ => tb r) .ret a w := by
            intro p93 a w he hst
            subst he
            simp only at h
            exact hJp74 _ _ _ (ho _ (Option.some.inj h).symm) (hst.pick [0])
          refine wp_block ?_
          refine wp_loopK _ (fun (s81 : Int) a w => St M w0 152 [(21, ti s81), (20, ti s43), (19, tsl (rSl (rSl rI)) [t36.1, p23, p38, ([] : (List (List Int)))]), (1, tsl rI values_)] [] a w) _ _ he82 (hst.pick [0, 1, 2, 3]) ?_
          clear h
          intro s81 o a w K94 hI h ho hK94
          have hst := hI
          clear hI
          refine wp_seq_k (fun K95 hK95 => ?_)
          refine wp_seq_k (fun K96 hK96 => ?_)
          refine wp_reg mixed [] hst (fun _ => .p rfl (op_move (.t 0 rfl)) <| .p rfl (op_move (.t 4 rfl)) <| .p rfl (op_len Try.underlying22 (.t 0 rfl)) <| .p rfl (op_leq (.t 2 rfl) (.t 0 rfl)) <| .p rfl (op_move (.t 0 rfl)) <| .g rfl rfl (.b 0 rfl) (fun _ => op_move (.t 5 rfl)) <| .g rfl rfl (.b 1 rfl) (fun hc => op_lss (.cond (.t 0 rfl) hc) .k) <| .p rfl (op_and (.t 2 rfl) (fun hp => (.cond (.t 0 rfl) (beqT hp)))) <| .nil _ _) (by kernel_rfl) (fun n20 a w hst => ?_)
          replace hst : St M w0 152 [(111, tb ((decide (s81 ≤ (values_.length : Int))) && (decide (s81 < (8:Int))))), (21, ti s81), (20, ti s43), (19, tsl (rSl (rSl rI)) [t36.1, p23, p38, ([] : (List (List Int)))]), (1, tsl rI values_)] [] a w := (hst.pick [7, 8, 9, 10, 11])
          refine hK96 _ _ ?_
          try clear hK96 K96
          refine wp_test 0 hst rfl (fun b103 => ?_) (fun b103 => ?_)
          · replace h := ite_t b103 h
            refine wp_skip ?_
            refine hK95 _ _ ?_
            try clear hK95 K95
            refine wp_seq_k (fun K97 hK97 => ?_)
            refine wp_block ?_
            refine wp_seq_k (fun K98 hK98 => ?_)
            obtain ⟨t117, ht117, h⟩ := bind_some h
            obtain ⟨t121, ht121, h⟩ := bind_some h
            obtain ⟨t122, ht122, h⟩ := bind_some h
            refine wp_reg mixed [] hst (fun _ => .p rfl (op_move (.t 3 rfl)) <| .p rfl (op_move (.t 3 rfl)) <| .p rfl (op_index Try.underlying34 tok26 (.t 1 rfl) (.t 0 rfl) ht117) <| .p rfl (op_load tok26 (.t 0 rfl)) <| .p rfl (op_move (.t 8 rfl)) <| .p rfl (op_move (.t 6 rfl)) <| .p rfl (op_slice Try.underlying22 tok3 (.t 1 rfl) (.no _) (.op (.t 0 rfl)) ht121) <| .p rfl (op_callF call38 (Range_ok ht122) (.cons (.of (.t 3 rfl)) <| .cons (.of (.t 0 rfl)) <| .nil)) <| .p rfl (op_move (.t 0 rfl)) <| .p rfl (op_extract (.t 0 rfl) rfl) <| .p rfl (op_extract (.t 1 rfl) rfl) <| .p rfl (op_extract (.t 2 rfl) rfl) <| .p rfl (op_assign (.t 2 rfl)) <| .p rfl (op_assign (.t 2 rfl)) <| .p rfl (op_assign (.t 2 rfl)) <| .nil _ _) (by kernel_rfl) (fun n22 a w hst => ?_)
            replace hst : St M w0 152 [(22, ti t122.1), (23, ti t122.2.1), (24, ti t122.2.2), (21, ti s81), (20, ti s43), (19, tsl (rSl (rSl rI)) [t36.1, p23, p38, ([] : (List (List Int)))]), (1, tsl rI values_)] [] a w := (hst.pick [12, 13, 14, 16, 17, 18, 19])
            refine hK98 _ _ ?_
            try clear hK98 K98
            refine wp_seq_k (fun K99 hK99 => ?_)
            obtain ⟨t129, ht129, h⟩ := bind_some h
            obtain ⟨t133, ht133, h⟩ := bind_some h
            obtain ⟨t134, ht134, h⟩ := bind_some h
            refine wp_reg mixed [] hst (fun _ => .p rfl (op_move (.t 5 rfl)) <| .p rfl (op_move (.t 5 rfl)) <| .p rfl (op_index Try.underlying34 tok26 (.t 1 rfl) (.t 0 rfl) ht129) <| .p rfl (op_load tok26 (.t 0 rfl)) <| .p rfl (op_move (.t 10 rfl)) <| .p rfl (op_move (.t 8 rfl)) <| .p rfl (op_slice Try.underlying22 tok3 (.t 1 rfl) (.no _) (.op (.t 0 rfl)) ht133) <| .p rfl (op_callF call39 (RangeR_ok ht134) (.cons (.of (.t 3 rfl)) <| .cons (.of (.t 0 rfl)) <| .nil)) <| .p rfl (op_move (.t 0 rfl)) <| .p rfl (op_extract (.t 0 rfl) rfl) <| .p rfl (op_extract (.t 1 rfl) rfl) <| .p rfl (op_extract (.t 2 rfl) rfl) <| .p rfl (op_assign (.t 2 rfl)) <| .p rfl (op_assign (.t 2 rfl)) <| .p rfl (op_assign (.t 2 rfl)) <| .nil _ _) (by kernel_rfl) (fun n23 a w hst => ?_)
            replace hst : St M w0 152 [(25, ti t134.1), (26, ti t134.2.1), (27, ti t134.2.2), (22, ti t122.1), (23, ti t122.2.1), (24, ti t122.2.2), (21, ti s81), (20, ti s43), (19, tsl (rSl (rSl rI)) [t36.1, p23, p38, ([] : (List (List Int)))]), (1, tsl rI values_)] [] a w := (hst.pick [12, 13, 14, 15, 16, 17, 18, 19, 20, 21])
            refine hK99 _ _ ?_
            try clear hK99 K99
            refine wp_seq_k (fun K100 hK100 => ?_)
            refine wp_reg mixed [] hst (fun _ => .p rfl (op_move (.t 3 rfl)) <| .p rfl (op_move (.t 1 rfl)) <| .p rfl (op_neq (.t 1 rfl) (.t 0 rfl)) <| .p rfl (op_move (.t 0 rfl)) <| .g rfl rfl (.b 0 rfl) (fun _ => op_move (.t 8 rfl)) <| .g rfl rfl (.b 1 rfl) (fun _ => op_move (.t 6 rfl)) <| .g rfl rfl (.b 2 rfl) (fun hc => op_neq (.cond (.t 1 rfl) hc) (.cond (.t 0 rfl) hc)) <| .p rfl (op_or (.t 3 rfl) (fun hp => (.cond (.t 0 rfl) (beqF hp)))) <| .p rfl (op_move (.t 0 rfl)) <| .g rfl rfl (.b 0 rfl) (fun _ => op_move (.t 14 rfl)) <| .g rfl rfl (.b 1 rfl) (fun _ => op_move (.t 12 rfl)) <| .g rfl rfl (.b 2 rfl) (fun hc => op_neq (.cond (.t 1 rfl) hc) (.cond (.t 0 rfl) hc)) <| .p rfl (op_or (.t 3 rfl) (fun hp => (.cond (.t 0 rfl) (beqF hp)))) <| .nil _ _) (by kernel_rfl) (fun n24 a w hst => ?_)
            replace hst : St M w0 152 [(150, tb (((t122.1 != t134.1) || (t122.2.1 != t134.2.1)) || (t122.2.2 != t134.2.2))), (21, ti s81), (20, ti s43), (19, tsl (rSl (rSl rI)) [t36.1, p23, p38, ([] : (List (List Int)))]), (1, tsl rI values_)] [] a w := (hst.pick [12, 19, 20, 21, 22])
            refine hK100 _ _ ?_
            try clear hK100 K100
            refine wp_test 0 hst rfl (fun b102 => ?_) (fun b102 => ?_)
            · replace h := ite_t b102 h
              refine wp_seq_k (fun K101 hK101 => ?_)
              refine wp_reg mixed [] hst (fun _ => .p rfl (op_assign .k) <| .nil _ _) (by kernel_rfl) (fun n25 a w hst => ?_)
              replace hst : St M w0 152 [(10, tb false)] [] a w := (hst.pick [0])
              refine hK101 _ _ ?_
              try clear hK101 K101
              refine wp_ret ?_
              exact hJp93 _ _ _ (ho _ (Option.some.inj h).symm) (hst.pick [0])
            · replace h := ite_f b102 h
              refine wp_skip ?_
              refine hK97 _ _ ?_
              try clear hK97 K97
              refine wp_reg mixed [] hst (fun _ => .p rfl (op_move (.t 1 rfl)) <| .p rfl (op_add (.t 0 rfl) .k) <| .p rfl (op_assign (.t 0 rfl)) <| .nil _ _) (by kernel_rfl) (fun n21 a w hst => ?_)
              replace hst : St M w0 152 [(21, ti (IntKind.i64.wrap (s81 + (1:Int)))), (20, ti s43), (19, tsl (rSl (rSl rI)) [t36.1, p23, p38, ([] : (List (List Int)))]), (1, tsl rI values_)] [] a w := (hst.pick [2, 4, 5, 6])
              exact hK94 _ _ _ (Option.some.inj h).symm (hst.pick [0, 1, 2, 3])
          · replace h := ite_f b103 h
            refine wp_exit ?_
            exact hJp92 _ _ _ (ho _ (Option.some.inj h).symm) (hst.pick [2, 3, 4])
        · replace h := ite_f b104 h
          refine wp_exit ?_
          exact hJp73 _ _ _ (ho _ (Option.some.inj h).symm) (hst.pick [])
      refine wp_block ?_
      refine wp_loopK _ (fun (s31 : Int × List (List Int)) a w => ∃ v32 : Value, St M w0 152 [(18, ti s31.1), (17, tv v32), (15, tv v20), (13, tsl (rSl rI) t36.1), (1, tsl rI values_), (4, tsl (rSl rI) raw_)] [own (rSl rI) 22 s31.2 v32, own rVal 22 us19 v20, rows rI 3 p23 us19] a w) _ _ he33 ⟨(.slice none 0 0), hst.pick [0, 1, 2, 3, 4, 5]⟩ ?_
      clear h
      intro s31 o a w K105 hI h ho hK105
      obtain ⟨v32, hst⟩ := hI
      refine wp_seq_k (fun K106 hK106 => ?_)
      refine wp_seq_k (fun K107 hK107 => ?_)
      refine wp_reg mixed [] hst (fun _ => .p rfl (op_move (.t 0 rfl)) <| .p rfl (op_move (.t 6 rfl)) <| .p rfl (op_len Try.underlying26 (.t 0 rfl)) <| .p rfl (op_lss (.t 2 rfl) (.t 0 rfl)) <| .p rfl (op_move (.t 0 rfl)) <| .g rfl rfl (.b 0 rfl) (fun _ => op_move (.t 5 rfl)) <| .g rfl rfl (.b 1 rfl) (fun hc => op_lss (.cond (.t 0 rfl) hc) .k) <| .p rfl (op_and (.t 2 rfl) (fun hp => (.cond (.t 0 rfl) (beqT hp)))) <| .nil _ _) (by kernel_rfl) (fun n12 a w hst => ?_)
      replace hst : St M w0 152 [(83, tb ((decide (s31.1 < (raw_.length : Int))) && (decide (s31.1 < (12:Int))))), (18, ti s31.1), (17, tv v32), (15, tv v20), (13, tsl (rSl rI) t36.1), (1, tsl rI values_), (4, tsl (rSl rI) raw_)] [own (rSl rI) 22 s31.2 v32, own rVal 22 us19 v20, rows rI 3 p23 us19] a w := (hst.pick [7, 8, 9, 10, 11, 12, 13])
      refine hK107 _ _ ?_
      try clear hK107 K107
      refine wp_test 0 hst rfl (fun b109 => ?_) (fun b109 => ?_)
      · replace h := ite_t b109 h
        refine wp_skip ?_
        refine hK106 _ _ ?_
        try clear hK106 K106
        refine wp_seq_k (fun K108 hK108 => ?_)
        refine wp_block ?_
        obtain ⟨t89, ht89, h⟩ := bind_some h
        obtain ⟨t91, ht91, h⟩ := bind_some h
        obtain ⟨u93, hu93, h⟩ := bind_some h
        refine wp_reg mixed [v1 7 (fun v0 => own (rSl rI) 22 (s31.2 ++ [t91]) v0)] hst (fun _ => .p rfl (op_move (.t 2 rfl)) <| .p rfl (op_move (.t 7 rfl)) <| .p rfl (op_move (.t 3 rfl)) <| .p rfl (op_index Try.underlying26 tok22 (.t 1 rfl) (.t 0 rfl) ht89) <| .p rfl (op_load tok22 (.t 0 rfl)) <| .p rfl (op_callF call15 ((Take_ok ht91).ro ro_self) (.cons (.of (.t 0 rfl)) <| .cons (.of .k) <| .nil)) <| .p rfl (op_buildSl (R := (rSl rI)) (us := [t91]) Try.underlying26 tok22 (.cons (.t 0 rfl) <| .nil _) rfl (Nat.le_of_ble_eq_true rfl)) <| .e [] [0] [3] rfl rfl rfl rfl (op_append (R := (rSl rI)) Try.underlying26 tok22 (Nat.le_of_ble_eq_true rfl) (.t 6 rfl) (.t 0 rfl) hu93) <| .ud (f := fun v => tv v) 7 rfl [] rfl rfl (op_assign (.t 0 rfl)) <| .nil _ _) (by kernel_rfl) (fun n14 a w hst => ?_)
        replace hst : St M w0 152 [(93, tv (n14 7)), (17, tv (n14 7)), (18, ti s31.1), (15, tv v20), (13, tsl (rSl rI) t36.1), (1, tsl rI values_), (4, tsl (rSl rI) raw_)] [own rVal 22 us19 v20, rows rI 3 p23 us19, own (rSl rI) 22 (s31.2 ++ [t91]) (n14 7)] a w := (hst.pick [7, 8, 10, 11, 12, 13, 14])
        refine hK108 _ _ ?_
        try clear hK108 K108
        refine wp_reg mixed [] hst (fun _ => .p rfl (op_move (.t 2 rfl)) <| .p rfl (op_add (.t 0 rfl) .k) <| .p rfl (op_assign (.t 0 rfl)) <| .nil _ _) (by kernel_rfl) (fun n13 a w hst => ?_)
        replace hst : St M w0 152 [(18, ti (IntKind.i64.wrap (s31.1 + (1:Int)))), (93, tv (n14 7)), (17, tv (n14 7)), (15, tv v20), (13, tsl (rSl rI) t36.1), (1, tsl rI values_), (4, tsl (rSl rI) raw_)] [own rVal 22 us19 v20, rows rI 3 p23 us19, own (rSl rI) 22 (s31.2 ++ [t91]) (n14 7)] a w := (hst.pick [2, 3, 4, 5, 6, 7, 8])
        exact hK105 _ _ _ (Option.some.inj h).symm ⟨(n14 7), (hst.pick [0, 2, 3, 4, 5, 6]).selA [2, 0, 1] rfl⟩
      · replace h := ite_f b109 h
        refine wp_exit ?_
        exact hJp38 _ v32 _ _ (ho _ (Option.some.inj h).symm) (hst.pick [2, 3, 4, 5])
    replace h := hp23
    clear hp23
    refine wp_test 1 hst rfl (fun b112 => ?_) (fun b112 => ?_)
    · replace h := ite_t b112 h
      obtain ⟨t61, ht61, h⟩ := bind_some h
      obtain ⟨r110, hr110, h⟩ := bind_some h
      obtain ⟨t68, ht68, h⟩ := bind_some h
      obtain ⟨t72, ht72, h⟩ := bind_some h
      obtain ⟨t73, ht73, h⟩ := bind_some h
      obtain ⟨t75s, ht75s, h⟩ := bind_some h
      obtain ⟨m111, hm111, h⟩ := bind_some h
      refine wp_reg mixed [v0 (rows rI 3 m111 us19)] hst (fun _ => .p rfl (op_move (.t 2 rfl)) <| .p rfl (op_move (.t 6 rfl)) <| .p rfl (op_move (.t 4 rfl)) <| .u [1, 0] rfl rfl (op_lenT Try.underlying26 (.t 0 rfl)) <| .p rfl (op_callF call13 (Around_ok ht61) (.cons (.of (.t 2 rfl)) <| .cons (.of (.t 0 rfl)) <| .nil)) <| .u [1, 0] rfl rfl (op_indexT Try.underlying26 tokV22 (.t 4 rfl) (.t 0 rfl) hr110) <| .u [1, 0] rfl rfl (op_loadT2 tokV22 (.t 0 rfl) hr110) <| .p rfl (op_move (.t 12 rfl)) <| .p rfl (op_quo (.t 0 rfl) .k (by decide)) <| .p rfl (op_move (.t 11 rfl)) <| .u [1, 0] rfl rfl (op_lenT Try.underlying26 (.t 0 rfl)) <| .p rfl (op_callF call13 (Around_ok ht68) (.cons (.of (.t 2 rfl)) <| .cons (.of (.t 0 rfl)) <| .nil)) <| .p rfl (op_move (.t 18 rfl)) <| .p rfl (op_buildSl (R := rI) (us := [by_, (1099511627776:Int), (-1099511627776:Int), (1099511627777:Int), (0:Int)]) Try.underlying22 tok3 (.cons (.t 0 rfl) <| .cons .k <| .cons .k <| .cons .k <| .cons .k <| .nil _) rfl (Nat.le_of_ble_eq_true rfl)) <| .p rfl (op_move (.t 20 rfl)) <| .p rfl (op_callF call13 (Around_ok ht72) (.cons (.of (.t 0 rfl)) <| .cons (.of .k) <| .nil)) <| .p rfl (op_index Try.underlying22 tok3 (.t 2 rfl) (.t 0 rfl) ht73) <| .p rfl (op_load tok3 (.t 0 rfl)) <| .u [0] rfl rfl (op_indexRs Try.underlying22 tok3 (.t 11 rfl) (.t 6 rfl) hr110 ht75s) <| .e [] [0] [2] rfl rfl rfl rfl (op_storeR tok3 (.t 0 rfl) (.t 1 rfl) hr110 ht75s hm111) <| .nil _ _) (by kernel_rfl) (fun n9 a w hst => ?_)
      replace hst : St M w0 152 [(57, tv v20), (59, tv v20), (66, tv v20), (54, tv v20), (15, tv v20), (13, tsl (rSl rI) t36.1), (1, tsl rI values_), (4, tsl (rSl rI) raw_)] [own rVal 22 us19 v20, rows rI 3 m111 us19] a w := (hst.pick [0, 2, 9, 19, 21, 22, 23, 26])
      obtain rfl := Option.some.inj h
      exact hJp23 _ _ (hst.pick [4, 5, 6, 7])
    · replace h := ite_f b112 h
      refine wp_skip ?_
      obtain rfl := Option.some.inj h
      exact hJp23 _ _ ((hst.pick [2, 3, 4, 7]).selA [1, 0] rfl)
  refine wp_block ?_
  refine wp_loopK _ (fun (s9 : Int × List (List Int)) a w => ∃ us10 : List Value, ∃ v11 : Value, St M w0 152 [(16, ti s9.1), (15, tv v11), (13, tsl (rSl rI) t36.1), (1, tsl rI values_), (2, ti at_), (3, ti by_), (4, tsl (rSl rI) raw_)] [rows rI 3 s9.2 us10, own rVal 22 us10 v11] a w) _ _ he12 ⟨([] : List Value), (.slice none 0 0), hst.pick [0, 1, 2, 3, 4, 5, 6]⟩ ?_
  clear h
  intro s9 o a w K113 hI h ho hK113
  obtain ⟨us10, v11, hst⟩ := hI
  refine wp_seq_k (fun K114 hK114 => ?_)
  refine wp_seq_k (fun K115 hK115 => ?_)
  refine wp_reg mixed [] hst (fun _ => .p rfl (op_move (.t 0 rfl)) <| .p rfl (op_move (.t 3 rfl)) <| .p rfl (op_len Try.underlying26 (.t 0 rfl)) <| .p rfl (op_lss (.t 2 rfl) (.t 0 rfl)) <| .nil _ _) (by kernel_rfl) (fun n5 a w hst => ?_)
  replace hst : St M w0 152 [(42, tb (decide (s9.1 < (t36.1.length : Int)))), (16, ti s9.1), (15, tv v11), (13, tsl (rSl rI) t36.1), (1, tsl rI values_), (2, ti at_), (3, ti by_), (4, tsl (rSl rI) raw_)] [rows rI 3 s9.2 us10, own rVal 22 us10 v11] a w := (hst.pick [3, 4, 5, 6, 7, 8, 9, 10])
  refine hK115 _ _ ?_
  try clear hK115 K115
  refine wp_test 0 hst rfl (fun b118 => ?_) (fun b118 => ?_)
  · replace h := ite_t b118 h
    refine wp_skip ?_
    refine hK114 _ _ ?_
    try clear hK114 K114
    refine wp_seq_k (fun K116 hK116 => ?_)
    refine wp_block ?_
    obtain ⟨t49, ht49, h⟩ := bind_some h
    obtain ⟨u51, hu51, h⟩ := bind_some h
    obtain ⟨u53, hu53, h⟩ := bind_some h
    refine wp_reg mixed [v1 1 (fun v0 => own rI 3 ([] : List Int) v0), v1 6 (fun v0 => own rI 3 (([] : List Int) ++ t49) v0), v2 6 8 (fun v0 v1 => own rVal 22 (us10 ++ [v0]) v1)] hst (fun n7 => .p rfl (op_move (.t 2 rfl)) <| .m [] [2] rfl rfl rfl (op_buildSlO (R := rI) (us := ([] : List Int)) Try.underlying22 tok3 (.nil _) rfl (Nat.le_of_ble_eq_true rfl) (Nat.le_of_ble_eq_true rfl)) <| .p rfl (op_move (.t 5 rfl)) <| .p rfl (op_move (.t 4 rfl)) <| .p rfl (op_index Try.underlying26 tok22 (.t 1 rfl) (.t 0 rfl) ht49) <| .p rfl (op_load tok22 (.t 0 rfl)) <| .e [] [2] [3] rfl rfl rfl rfl (op_append (R := rI) Try.underlying22 tok3 (Nat.le_of_ble_eq_true rfl) (.t 4 rfl) (.t 0 rfl) hu51) <| .ud (f := fun v => tsl rVal [v]) 6 rfl [3] rfl rfl (op_hdr (R := rI) (e := 3) (xs := (([] : List Int) ++ t49)) Try.underlying26 tokV22 (.t 0 rfl)) <| .e [0] [1] [4] rfl rfl rfl rfl (op_appendT (R := rI) (e2 := 3) (ws := [(n7 6)]) Try.underlying26 tokV22 (Nat.le_of_ble_eq_true rfl) (.t 7 rfl) (.t 0 rfl) hu53) <| .ud (f := fun v => tv v) 8 rfl [] rfl rfl (op_assign (.t 0 rfl)) <| .nil _ _) (by kernel_rfl) (fun n7 a w hst => ?_)
    replace hst : St M w0 152 [(51, tv (n7 6)), (53, tv (n7 8)), (15, tv (n7 8)), (16, ti s9.1), (13, tsl (rSl rI) t36.1), (1, tsl rI values_), (2, ti at_), (3, ti by_), (4, tsl (rSl rI) raw_)] [rows rI 3 (s9.2 ++ [(([] : List Int) ++ t49)]) (us10 ++ [(n7 6)]), own rVal 22 (us10 ++ [(n7 6)]) (n7 8)] a w := (((hst.pick [6, 8, 9, 11, 12, 13, 14, 15, 16]).selA [1, 0, 2] rfl).push)
    refine hK116 _ _ ?_
    try clear hK116 K116
    refine wp_reg mixed [] hst (fun _ => .p rfl (op_move (.t 3 rfl)) <| .p rfl (op_add (.t 0 rfl) .k) <| .p rfl (op_assign (.t 0 rfl)) <| .nil _ _) (by kernel_rfl) (fun n6 a w hst => ?_)
    replace hst : St M w0 152 [(16, ti (IntKind.i64.wrap (s9.1 + (1:Int)))), (53, tv (n7 8)), (15, tv (n7 8)), (13, tsl (rSl rI) t36.1), (1, tsl rI values_), (2, ti at_), (3, ti by_), (4, tsl (rSl rI) raw_)] [rows rI 3 (s9.2 ++ [(([] : List Int) ++ t49)]) (us10 ++ [(n7 6)]), own rVal 22 (us10 ++ [(n7 6)]) (n7 8)] a w := (hst.pick [2, 4, 5, 6, 7, 8, 9, 10])
    exact hK113 _ _ _ (Option.some.inj h).symm ⟨(us10 ++ [(n7 6)]), (n7 8), hst.pick [0, 2, 3, 4, 5, 6, 7]⟩
  · replace h := ite_f b118 h
    refine wp_exit ?_
    exact hJp18 _ us10 v11 _ _ (ho _ (Option.some.inj h).symm) (hst.pick [2, 3, 4, 5, 6, 7])


end Go.Proofs.Ytjniiejgccdhiaa
