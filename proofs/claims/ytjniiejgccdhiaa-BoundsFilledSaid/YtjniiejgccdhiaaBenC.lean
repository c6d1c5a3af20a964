/- Go functions as Lean functions, and the proofs that they compute them, written by a program. No condition. -/
import Derived.Test.YtjniiejgccdhiaaBenB
namespace Go.Proofs.Ytjniiejgccdhiaa
open Go.Sim

/- diorama/dioramaref14.Close -/
noncomputable def fCloseR (n_ : Int) (l_ : (List SDiff)) : Option ((List (List Int)) × Int) := (fValidR14 n_ l_).bind fun t14 => (if (t14 != (0:Int)) = true then (some (([] : List (List Int)), t14)) else (ftable n_ l_).bind fun t20 => (tailrec (fun (s12 : Int × List (List Int)) => ((if (decide (s12.1 ≤ n_)) = true then (tailrec (fun (s135 : Int × List (List Int)) => ((if (decide (s135.1 ≤ n_)) = true then (tailrec (fun (s184 : Int × List (List Int)) => ((if (decide (s184.1 ≤ n_)) = true then (idx s184.2 s135.1).bind fun r208 => (idx r208 s12.1).bind fun t41 => (opt ((decide (t41 < (1099511627776:Int))) == true) (idx s184.2 s12.1) default).bind fun r209 => (opt ((decide (t41 < (1099511627776:Int))) == true) (idx r209 s184.1) default).bind fun t50 => ((if ((decide (t41 < (1099511627776:Int))) && (decide (t50 < (1099511627776:Int)))) = true then (idx s184.2 s135.1).bind fun r215 => (idx r215 s184.1).bind fun t64 => (idx r215 s12.1).bind fun t71 => (idx s184.2 s12.1).bind fun r216 => (idx r216 s184.1).bind fun t78 => (setAt r215 s184.1 (imin t64 (IntKind.i64.wrap (t71 + t78)))).bind fun t82s => (setAt s184.2 s135.1 t82s).bind fun m217 => (some m217) else (some s184.2))).bind fun (p210 : List (List Int)) => (some (.inl ((IntKind.i64.wrap (s184.1 + (1:Int))), p210))) else (some (.inr s184.2))) : Option ((Int × List (List Int)) ⊕ ((List (List Int)))))) ((0:Int), s135.2)).bind fun (p202 : (List (List Int))) => (some (.inl ((IntKind.i64.wrap (s135.1 + (1:Int))), p202))) else (some (.inr s135.2))) : Option ((Int × List (List Int)) ⊕ ((List (List Int)))))) ((0:Int), s12.2)).bind fun (p178 : (List (List Int))) => (some (.inl ((IntKind.i64.wrap (s12.1 + (1:Int))), p178))) else (some (.inr s12.2))) : Option ((Int × List (List Int)) ⊕ ((List (List Int)))))) ((0:Int), t20)).bind fun (p105 : (List (List Int))) => (tailrec (fun (s108 : Int) => ((if (decide (s108 ≤ n_)) = true then (idx p105 s108).bind fun r126 => (idx r126 s108).bind fun t93 => (if (decide (t93 < (0:Int))) = true then (some (.inr (.inr (([] : List (List Int)), (14:Int))))) else (some (.inl (IntKind.i64.wrap (s108 + (1:Int)))))) else (some (.inr (.inl ())))) : Option ((Int) ⊕ ((Unit) ⊕ ((List (List Int)) × Int))))) (0:Int)).bind fun (e109 : (Unit) ⊕ ((List (List Int)) × Int)) => (match e109 with | .inl p118 => (some (p105, (0:Int))) | .inr p119 => (some (p119.1, p119.2))))
set_option maxRecDepth 100000 in
set_option maxHeartbeats 4000000 in
theorem CloseR_ok {n_ : Int} {l_ : (List SDiff)} {r : (List (List Int)) × Int} (h : fCloseR n_ l_ = some r) : FnOk Try.prog 33 [ti n_, tsl rSDiff l_] [] (fun _ => []) (fun _ => ttup [tsl (rSl rI) r.1, ti r.2]) := by
  unfold fCloseR at h
  refine FnOk.enter Try.func33 rfl Try.ntmps33 (Nat.le_of_ble_eq_true rfl) (fun M0 M w0 a hpl hst => ?_)
  replace hst : St M w0 97 [(0, ti n_), (1, tsl rSDiff l_)] [] a w0 := hst
  refine wp_seq_k (fun K1 hK1 => ?_)
  refine wp_reg mixed [] hst (fun _ => .p rfl (op_assign (.nilsl (R := (rSl rI)))) <| .p rfl (op_assign .k) <| .nil _ _) (by kernel_rfl) (fun n0 a w hst => ?_)
  replace hst : St M w0 97 [(0, ti n_), (1, tsl rSDiff l_)] [] a w := (hst.pick [2, 3])
  refine hK1 _ _ ?_
  try clear hK1 K1
  refine wp_seq_k (fun K2 hK2 => ?_)
  obtain ⟨t14, ht14, h⟩ := bind_some h
  refine wp_reg mixed [] hst (fun _ => .p rfl (op_move (.t 0 rfl)) <| .p rfl (op_move (.t 2 rfl)) <| .p rfl (op_callF call62 (ValidR14_ok ht14) (.cons (.of (.t 1 rfl)) <| .cons (.of (.t 0 rfl)) <| .nil)) <| .p rfl (op_assign (.t 0 rfl)) <| .nil _ _) (by kernel_rfl) (fun n1 a w hst => ?_)
  replace hst : St M w0 97 [(6, ti t14), (0, ti n_), (1, tsl rSDiff l_)] [] a w := (hst.pick [3, 4, 5])
  refine hK2 _ _ ?_
  try clear hK2 K2
  refine wp_seq_k (fun K3 hK3 => ?_)
  refine wp_seq_k (fun K4 hK4 => ?_)
  refine wp_reg mixed [] hst (fun _ => .p rfl (op_move (.t 0 rfl)) <| .p rfl (op_neq (.t 0 rfl) .k) <| .nil _ _) (by kernel_rfl) (fun n2 a w hst => ?_)
  replace hst : St M w0 97 [(16, tb (t14 != (0:Int))), (6, ti t14), (0, ti n_), (1, tsl rSDiff l_)] [] a w := (hst.pick [1, 2, 3, 4])
  refine hK4 _ _ ?_
  try clear hK4 K4
  refine wp_test 0 hst rfl (fun b222 => ?_) (fun b222 => ?_)
  · replace h := ite_t b222 h
    refine wp_seq_k (fun K5 hK5 => ?_)
    refine wp_reg mixed [] hst (fun _ => .p rfl (op_move (.t 1 rfl)) <| .p rfl (op_assign (.nilsl (R := (rSl rI)))) <| .p rfl (op_assign (.t 1 rfl)) <| .nil _ _) (by kernel_rfl) (fun n3 a w hst => ?_)
    replace hst : St M w0 97 [(4, tsl (rSl rI) ([] : List (List Int))), (5, ti t14)] [] a w := (hst.pick [1, 2])
    refine hK5 _ _ ?_
    try clear hK5 K5
    refine wp_ret ?_
    obtain rfl := Option.some.inj h
    exact ret_st undef [] hpl hst rfl (.tmp (.t 0 rfl) (.tmp (.t 1 rfl) .nil)) rfl rfl rfl
  · replace h := ite_f b222 h
    refine wp_skip ?_
    refine hK3 _ _ ?_
    try clear hK3 K3
    refine wp_seq_k (fun K6 hK6 => ?_)
    obtain ⟨t20, ht20, h⟩ := bind_some h
    refine wp_reg mixed [v1 2 (fun v0 => own rVal 22 (tabU v0) (tabV v0)), v1 2 (fun v0 => rows rI 3 t20 (tabU v0))] hst (fun _ => .p rfl (op_move (.t 2 rfl)) <| .p rfl (op_move (.t 4 rfl)) <| .m [] [0, 1] rfl rfl rfl (op_callF call63 (table_ok ht20) (.cons (.of (.t 1 rfl)) <| .cons (.of (.t 0 rfl)) <| .nil)) <| .ud (f := fun v => tv (tabV v)) 2 rfl [] rfl rfl (op_assign (.t 0 rfl)) <| .nil _ _) (by kernel_rfl) (fun n4 a w hst => ?_)
    replace hst : St M w0 97 [(20, tv (tabV (n4 2))), (7, tv (tabV (n4 2))), (0, ti n_)] [own rVal 22 (tabU (n4 2)) (tabV (n4 2)), rows rI 3 t20 (tabU (n4 2))] a w := (hst.pick [2, 3, 6])
    refine hK6 _ _ ?_
    try clear hK6 K6
    refine wp_seq_k (fun K10 hK10 => ?_)
    refine wp_seq_k (fun K11 hK11 => ?_)
    refine wp_reg mixed [] hst (fun _ => .p rfl (op_assign .k) <| .nil _ _) (by kernel_rfl) (fun n5 a w hst => ?_)
    replace hst : St M w0 97 [(8, ti (0:Int)), (20, tv (tabV (n4 2))), (7, tv (tabV (n4 2))), (0, ti n_)] [own rVal 22 (tabU (n4 2)) (tabV (n4 2)), rows rI 3 t20 (tabU (n4 2))] a w := (hst.pick [0, 1, 2, 3])
    refine hK11 _ _ ?_
    try clear hK11 K11
    obtain ⟨e13, he13, h⟩ := bind_some h
    have hJp105 : ∀ (p105 : List (List Int)) a w, p105 = e13 → St M w0 97 [(7, tv (tabV (n4 2))), (0, ti n_)] [own rVal 22 (tabU (n4 2)) (tabV (n4 2)), rows rI 3 p105 (tabU (n4 2))] a w → K10 a w := by
      intro p105 a w he hst
      subst he
      refine hK10 _ _ ?_
      try clear hK10 K10
      refine wp_seq_k (fun K106 hK106 => ?_)
      refine wp_seq_k (fun K107 hK107 => ?_)
      refine wp_reg mixed [] hst (fun _ => .p rfl (op_assign .k) <| .nil _ _) (by kernel_rfl) (fun n16 a w hst => ?_)
      replace hst : St M w0 97 [(11, ti (0:Int)), (7, tv (tabV (n4 2))), (0, ti n_)] [own rVal 22 (tabU (n4 2)) (tabV (n4 2)), rows rI 3 p105 (tabU (n4 2))] a w := (hst.pick [0, 1, 2])
      refine hK107 _ _ ?_
      try clear hK107 K107
      obtain ⟨e109, he109, h⟩ := bind_some h
      have hJp118 : ∀ (p118 : Unit) a w, (.inl p118) = e109 → St M w0 97 [(7, tv (tabV (n4 2)))] [own rVal 22 (tabU (n4 2)) (tabV (n4 2)), rows rI 3 p105 (tabU (n4 2))] a w → K106 a w := by
        intro p118 a w he hst
        subst he
        simp only at h
        refine hK106 _ _ ?_
        try clear hK106 K106
        refine wp_seq_k (fun K120 hK120 => ?_)
        refine wp_reg mixed [] hst (fun _ => .p rfl (op_move (.t 0 rfl)) <| .p rfl (op_assign (.t 0 rfl)) <| .p rfl (op_assign .k) <| .nil _ _) (by kernel_rfl) (fun n21 a w hst => ?_)
        replace hst : St M w0 97 [(96, tv (tabV (n4 2))), (4, tv (tabV (n4 2))), (5, ti (0:Int)), (7, tv (tabV (n4 2)))] [own rVal 22 (tabU (n4 2)) (tabV (n4 2)), rows rI 3 p105 (tabU (n4 2))] a w := (hst.pick [0, 1, 2, 3])
        refine hK120 _ _ ?_
        try clear hK120 K120
        refine wp_ret ?_
        replace hst : St M w0 97 [(4, tsl (rSl rI) p105), (5, ti (0:Int))] [] a w := ((hst.shareT 1 rfl).pick [0, 3])
        obtain rfl := Option.some.inj h
        exact ret_st undef [] hpl hst rfl (.tmp (.t 0 rfl) (.tmp (.t 1 rfl) .nil)) rfl rfl rfl
      have hJp119 : ∀ (p119 : (List (List Int)) × Int) a w, (.inr p119) = e109 → St M w0 97 [(4, tsl (rSl rI) p119.1), (5, ti p119.2)] [] a w → Ret Try.prog Try.f33 M0 [] w0 (fun _ => []) (fun _ => ttup [tsl (rSl rI) r.1, ti r.2]) .ret a w := by
        intro p119 a w he hst
        subst he
        simp only at h
        obtain rfl := Option.some.inj h
        exact ret_st undef [] hpl hst rfl (.tmp (.t 0 rfl) (.tmp (.t 1 rfl) .nil)) rfl rfl rfl
      refine wp_block ?_
      refine wp_loopK _ (fun (s108 : Int) a w => St M w0 97 [(11, ti s108), (7, tv (tabV (n4 2))), (0, ti n_)] [own rVal 22 (tabU (n4 2)) (tabV (n4 2)), rows rI 3 p105 (tabU (n4 2))] a w) _ _ he109 (hst.pick [0, 1, 2]) ?_
      clear h
      intro s108 o a w K121 hI h ho hK121
      have hst := hI
      clear hI
      refine wp_seq_k (fun K122 hK122 => ?_)
      refine wp_seq_k (fun K123 hK123 => ?_)
      refine wp_reg mixed [] hst (fun _ => .p rfl (op_move (.t 0 rfl)) <| .p rfl (op_move (.t 3 rfl)) <| .p rfl (op_leq (.t 1 rfl) (.t 0 rfl)) <| .nil _ _) (by kernel_rfl) (fun n17 a w hst => ?_)
      replace hst : St M w0 97 [(85, tb (decide (s108 ≤ n_))), (11, ti s108), (7, tv (tabV (n4 2))), (0, ti n_)] [own rVal 22 (tabU (n4 2)) (tabV (n4 2)), rows rI 3 p105 (tabU (n4 2))] a w := (hst.pick [2, 3, 4, 5])
      refine hK123 _ _ ?_
      try clear hK123 K123
      refine wp_test 0 hst rfl (fun b129 => ?_) (fun b129 => ?_)
      · replace h := ite_t b129 h
        refine wp_skip ?_
        refine hK122 _ _ ?_
        try clear hK122 K122
        refine wp_seq_k (fun K124 hK124 => ?_)
        refine wp_block ?_
        refine wp_seq_k (fun K125 hK125 => ?_)
        obtain ⟨r126, hr126, h⟩ := bind_some h
        obtain ⟨t93, ht93, h⟩ := bind_some h
        refine wp_reg mixed [] hst (fun _ => .p rfl (op_move (.t 2 rfl)) <| .p rfl (op_move (.t 2 rfl)) <| .u [0, 1] rfl rfl (op_indexT Try.underlying26 tokV22 (.t 1 rfl) (.t 0 rfl) hr126) <| .u [0, 1] rfl rfl (op_loadT2 tokV22 (.t 0 rfl) hr126) <| .p rfl (op_move (.t 5 rfl)) <| .u [1] rfl rfl (op_indexRi Try.underlying22 tok3 (.t 1 rfl) (.t 0 rfl) hr126 ht93) <| .u [1] rfl rfl (op_loadR tok3 (.t 0 rfl) hr126 ht93) <| .p rfl (op_lss (.t 0 rfl) .k) <| .nil _ _) (by kernel_rfl) (fun n19 a w hst => ?_)
        replace hst : St M w0 97 [(88, tv (tabV (n4 2))), (95, tb (decide (t93 < (0:Int)))), (11, ti s108), (7, tv (tabV (n4 2))), (0, ti n_)] [own rVal 22 (tabU (n4 2)) (tabV (n4 2)), rows rI 3 p105 (tabU (n4 2))] a w := (hst.pick [0, 7, 9, 10, 11])
        refine hK125 _ _ ?_
        try clear hK125 K125
        refine wp_test 1 hst rfl (fun b128 => ?_) (fun b128 => ?_)
        · replace h := ite_t b128 h
          refine wp_seq_k (fun K127 hK127 => ?_)
          refine wp_reg mixed [] hst (fun _ => .p rfl (op_assign (.nilsl (R := (rSl rI)))) <| .p rfl (op_assign .k) <| .nil _ _) (by kernel_rfl) (fun n20 a w hst => ?_)
          replace hst : St M w0 97 [(4, tsl (rSl rI) ([] : List (List Int))), (5, ti (14:Int)), (88, tv (tabV (n4 2))), (7, tv (tabV (n4 2)))] [own rVal 22 (tabU (n4 2)) (tabV (n4 2)), rows rI 3 p105 (tabU (n4 2))] a w := (hst.pick [0, 1, 2, 5])
          refine hK127 _ _ ?_
          try clear hK127 K127
          refine wp_ret ?_
          exact hJp119 _ _ _ (ho _ (Option.some.inj h).symm) ((hst.pick [0, 1]).selA [] rfl)
        · replace h := ite_f b128 h
          refine wp_skip ?_
          refine hK124 _ _ ?_
          try clear hK124 K124
          refine wp_reg mixed [] hst (fun _ => .p rfl (op_move (.t 2 rfl)) <| .p rfl (op_add (.t 0 rfl) .k) <| .p rfl (op_assign (.t 0 rfl)) <| .nil _ _) (by kernel_rfl) (fun n18 a w hst => ?_)
          replace hst : St M w0 97 [(11, ti (IntKind.i64.wrap (s108 + (1:Int)))), (88, tv (tabV (n4 2))), (7, tv (tabV (n4 2))), (0, ti n_)] [own rVal 22 (tabU (n4 2)) (tabV (n4 2)), rows rI 3 p105 (tabU (n4 2))] a w := (hst.pick [2, 3, 5, 6])
          exact hK121 _ _ _ (Option.some.inj h).symm (hst.pick [0, 2, 3])
      · replace h := ite_f b129 h
        refine wp_exit ?_
        exact hJp118 _ _ _ (ho _ (Option.some.inj h).symm) (hst.pick [2])
    refine wp_block ?_
    refine wp_loopK _ (fun (s12 : Int × List (List Int)) a w => St M w0 97 [(8, ti s12.1), (7, tv (tabV (n4 2))), (0, ti n_)] [own rVal 22 (tabU (n4 2)) (tabV (n4 2)), rows rI 3 s12.2 (tabU (n4 2))] a w) _ _ he13 (hst.pick [0, 2, 3]) ?_
    clear h
    intro s12 o a w K130 hI h ho hK130
    have hst := hI
    clear hI
    refine wp_seq_k (fun K131 hK131 => ?_)
    refine wp_seq_k (fun K132 hK132 => ?_)
    refine wp_reg mixed [] hst (fun _ => .p rfl (op_move (.t 0 rfl)) <| .p rfl (op_move (.t 3 rfl)) <| .p rfl (op_leq (.t 1 rfl) (.t 0 rfl)) <| .nil _ _) (by kernel_rfl) (fun n6 a w hst => ?_)
    replace hst : St M w0 97 [(23, tb (decide (s12.1 ≤ n_))), (8, ti s12.1), (7, tv (tabV (n4 2))), (0, ti n_)] [own rVal 22 (tabU (n4 2)) (tabV (n4 2)), rows rI 3 s12.2 (tabU (n4 2))] a w := (hst.pick [2, 3, 4, 5])
    refine hK132 _ _ ?_
    try clear hK132 K132
    refine wp_test 0 hst rfl (fun b221 => ?_) (fun b221 => ?_)
    · replace h := ite_t b221 h
      refine wp_skip ?_
      refine hK131 _ _ ?_
      try clear hK131 K131
      refine wp_seq_k (fun K133 hK133 => ?_)
      refine wp_block ?_
      refine wp_seq_k (fun K134 hK134 => ?_)
      refine wp_reg mixed [] hst (fun _ => .p rfl (op_assign .k) <| .nil _ _) (by kernel_rfl) (fun n8 a w hst => ?_)
      replace hst : St M w0 97 [(9, ti (0:Int)), (8, ti s12.1), (7, tv (tabV (n4 2))), (0, ti n_)] [own rVal 22 (tabU (n4 2)) (tabV (n4 2)), rows rI 3 s12.2 (tabU (n4 2))] a w := (hst.pick [0, 2, 3, 4])
      refine hK134 _ _ ?_
      try clear hK134 K134
      obtain ⟨e136, he136, h⟩ := bind_some h
      have hJp178 : ∀ (p178 : List (List Int)) a w, p178 = e136 → St M w0 97 [(8, ti s12.1), (7, tv (tabV (n4 2))), (0, ti n_)] [own rVal 22 (tabU (n4 2)) (tabV (n4 2)), rows rI 3 p178 (tabU (n4 2))] a w → K133 a w := by
        intro p178 a w he hst
        subst he
        refine hK133 _ _ ?_
        try clear hK133 K133
        refine wp_reg mixed [] hst (fun _ => .p rfl (op_move (.t 0 rfl)) <| .p rfl (op_add (.t 0 rfl) .k) <| .p rfl (op_assign (.t 0 rfl)) <| .nil _ _) (by kernel_rfl) (fun n7 a w hst => ?_)
        replace hst : St M w0 97 [(8, ti (IntKind.i64.wrap (s12.1 + (1:Int)))), (7, tv (tabV (n4 2))), (0, ti n_)] [own rVal 22 (tabU (n4 2)) (tabV (n4 2)), rows rI 3 p178 (tabU (n4 2))] a w := (hst.pick [2, 3, 4])
        exact hK130 _ _ _ (Option.some.inj h).symm (hst.pick [0, 1, 2])
      refine wp_block ?_
      refine wp_loopK _ (fun (s135 : Int × List (List Int)) a w => St M w0 97 [(9, ti s135.1), (8, ti s12.1), (7, tv (tabV (n4 2))), (0, ti n_)] [own rVal 22 (tabU (n4 2)) (tabV (n4 2)), rows rI 3 s135.2 (tabU (n4 2))] a w) _ _ he136 (hst.pick [0, 1, 2, 3]) ?_
      clear h
      intro s135 o a w K179 hI h ho hK179
      have hst := hI
      clear hI
      refine wp_seq_k (fun K180 hK180 => ?_)
      refine wp_seq_k (fun K181 hK181 => ?_)
      refine wp_reg mixed [] hst (fun _ => .p rfl (op_move (.t 0 rfl)) <| .p rfl (op_move (.t 4 rfl)) <| .p rfl (op_leq (.t 1 rfl) (.t 0 rfl)) <| .nil _ _) (by kernel_rfl) (fun n9 a w hst => ?_)
      replace hst : St M w0 97 [(28, tb (decide (s135.1 ≤ n_))), (9, ti s135.1), (8, ti s12.1), (7, tv (tabV (n4 2))), (0, ti n_)] [own rVal 22 (tabU (n4 2)) (tabV (n4 2)), rows rI 3 s135.2 (tabU (n4 2))] a w := (hst.pick [2, 3, 4, 5, 6])
      refine hK181 _ _ ?_
      try clear hK181 K181
      refine wp_test 0 hst rfl (fun b220 => ?_) (fun b220 => ?_)
      · replace h := ite_t b220 h
        refine wp_skip ?_
        refine hK180 _ _ ?_
        try clear hK180 K180
        refine wp_seq_k (fun K182 hK182 => ?_)
        refine wp_block ?_
        refine wp_seq_k (fun K183 hK183 => ?_)
        refine wp_reg mixed [] hst (fun _ => .p rfl (op_assign .k) <| .nil _ _) (by kernel_rfl) (fun n11 a w hst => ?_)
        replace hst : St M w0 97 [(10, ti (0:Int)), (9, ti s135.1), (8, ti s12.1), (7, tv (tabV (n4 2))), (0, ti n_)] [own rVal 22 (tabU (n4 2)) (tabV (n4 2)), rows rI 3 s135.2 (tabU (n4 2))] a w := (hst.pick [0, 2, 3, 4, 5])
        refine hK183 _ _ ?_
        try clear hK183 K183
        obtain ⟨e185, he185, h⟩ := bind_some h
        have hJp202 : ∀ (p202 : List (List Int)) a w, p202 = e185 → St M w0 97 [(9, ti s135.1), (8, ti s12.1), (7, tv (tabV (n4 2))), (0, ti n_)] [own rVal 22 (tabU (n4 2)) (tabV (n4 2)), rows rI 3 p202 (tabU (n4 2))] a w → K182 a w := by
          intro p202 a w he hst
          subst he
          refine hK182 _ _ ?_
          try clear hK182 K182
          refine wp_reg mixed [] hst (fun _ => .p rfl (op_move (.t 0 rfl)) <| .p rfl (op_add (.t 0 rfl) .k) <| .p rfl (op_assign (.t 0 rfl)) <| .nil _ _) (by kernel_rfl) (fun n10 a w hst => ?_)
          replace hst : St M w0 97 [(9, ti (IntKind.i64.wrap (s135.1 + (1:Int)))), (8, ti s12.1), (7, tv (tabV (n4 2))), (0, ti n_)] [own rVal 22 (tabU (n4 2)) (tabV (n4 2)), rows rI 3 p202 (tabU (n4 2))] a w := (hst.pick [2, 3, 4, 5])
          exact hK179 _ _ _ (Option.some.inj h).symm (hst.pick [0, 1, 2, 3])
        refine wp_block ?_
        refine wp_loopK _ (fun (s184 : Int × List (List Int)) a w => St M w0 97 [(10, ti s184.1), (9, ti s135.1), (8, ti s12.1), (7, tv (tabV (n4 2))), (0, ti n_)] [own rVal 22 (tabU (n4 2)) (tabV (n4 2)), rows rI 3 s184.2 (tabU (n4 2))] a w) _ _ he185 (hst.pick [0, 1, 2, 3, 4]) ?_
        clear h
        intro s184 o a w K203 hI h ho hK203
        have hst := hI
        clear hI
        refine wp_seq_k (fun K204 hK204 => ?_)
        refine wp_seq_k (fun K205 hK205 => ?_)
        refine wp_reg mixed [] hst (fun _ => .p rfl (op_move (.t 0 rfl)) <| .p rfl (op_move (.t 5 rfl)) <| .p rfl (op_leq (.t 1 rfl) (.t 0 rfl)) <| .nil _ _) (by kernel_rfl) (fun n12 a w hst => ?_)
        replace hst : St M w0 97 [(33, tb (decide (s184.1 ≤ n_))), (10, ti s184.1), (9, ti s135.1), (8, ti s12.1), (7, tv (tabV (n4 2))), (0, ti n_)] [own rVal 22 (tabU (n4 2)) (tabV (n4 2)), rows rI 3 s184.2 (tabU (n4 2))] a w := (hst.pick [2, 3, 4, 5, 6, 7])
        refine hK205 _ _ ?_
        try clear hK205 K205
        refine wp_test 0 hst rfl (fun b219 => ?_) (fun b219 => ?_)
        · replace h := ite_t b219 h
          refine wp_skip ?_
          refine hK204 _ _ ?_
          try clear hK204 K204
          refine wp_seq_k (fun K206 hK206 => ?_)
          refine wp_block ?_
          refine wp_seq_k (fun K207 hK207 => ?_)
          obtain ⟨r208, hr208, h⟩ := bind_some h
          obtain ⟨t41, ht41, h⟩ := bind_some h
          obtain ⟨r209, hr209, h⟩ := bind_some h
          obtain ⟨t50, ht50, h⟩ := bind_some h
          refine wp_reg mixed [] hst (fun _ => .p rfl (op_move (.t 4 rfl)) <| .p rfl (op_move (.t 3 rfl)) <| .u [0, 1] rfl rfl (op_indexT Try.underlying26 tokV22 (.t 1 rfl) (.t 0 rfl) hr208) <| .u [0, 1] rfl rfl (op_loadT2 tokV22 (.t 0 rfl) hr208) <| .p rfl (op_move (.t 7 rfl)) <| .u [1] rfl rfl (op_indexRi Try.underlying22 tok3 (.t 1 rfl) (.t 0 rfl) hr208 ht41) <| .u [1] rfl rfl (op_loadR tok3 (.t 0 rfl) hr208 ht41) <| .p rfl (op_lss (.t 0 rfl) .k) <| .p rfl (op_move (.t 0 rfl)) <| .g rfl rfl (.b 0 rfl) (fun _ => op_move (.t 13 rfl)) <| .g rfl rfl (.b 1 rfl) (fun _ => op_move (.t 13 rfl)) <| .gu [0, 1] rfl rfl rfl (.b 2 rfl) (fun hc => op_indexT Try.underlying26 tokV22 (.cond (.t 1 rfl) hc) (.cond (.t 0 rfl) hc) (opt_t hr209 hc)) <| .gu [0, 1] rfl rfl rfl (.b 3 rfl) (fun hc => op_loadT2 tokV22 (.cond (.t 0 rfl) hc) (opt_t hr209 hc)) <| .g rfl rfl (.b 4 rfl) (fun _ => op_move (.t 14 rfl)) <| .gu [1] rfl rfl rfl (.b 5 rfl) (fun hc => op_indexRi Try.underlying22 tok3 (.cond (.t 1 rfl) hc) (.cond (.t 0 rfl) hc) (opt_t hr209 hc) (opt_t ht50 hc)) <| .gu [1] rfl rfl rfl (.b 6 rfl) (fun hc => op_loadR tok3 (.cond (.t 0 rfl) hc) (opt_t hr209 hc) (opt_t ht50 hc)) <| .g rfl rfl (.b 7 rfl) (fun hc => op_lss (.cond (.t 0 rfl) hc) .k) <| .p rfl (op_and (.t 8 rfl) (fun hp => (.cond (.t 0 rfl) (beqT hp)))) <| .nil _ _) (by kernel_rfl) (fun n14 a w hst => ?_)
          replace hst : St M w0 97 [(36, tv (tabV (n4 2))), (53, tb ((decide (t41 < (1099511627776:Int))) && (decide (t50 < (1099511627776:Int))))), (10, ti s184.1), (9, ti s135.1), (8, ti s12.1), (7, tv (tabV (n4 2))), (0, ti n_)] [own rVal 22 (tabU (n4 2)) (tabV (n4 2)), rows rI 3 s184.2 (tabU (n4 2))] a w := (hst.pick [0, 17, 19, 20, 21, 22, 23])
          refine hK207 _ _ ?_
          try clear hK207 K207
          obtain ⟨p210, hp210, h⟩ := bind_some h
          have hJp210 : ∀ a w, St M w0 97 [(10, ti s184.1), (9, ti s135.1), (8, ti s12.1), (7, tv (tabV (n4 2))), (0, ti n_)] [own rVal 22 (tabU (n4 2)) (tabV (n4 2)), rows rI 3 p210 (tabU (n4 2))] a w → K206 a w := by
            intro a w hst
            refine hK206 _ _ ?_
            try clear hK206 K206
            refine wp_reg mixed [] hst (fun _ => .p rfl (op_move (.t 0 rfl)) <| .p rfl (op_add (.t 0 rfl) .k) <| .p rfl (op_assign (.t 0 rfl)) <| .nil _ _) (by kernel_rfl) (fun n13 a w hst => ?_)
            replace hst : St M w0 97 [(10, ti (IntKind.i64.wrap (s184.1 + (1:Int)))), (9, ti s135.1), (8, ti s12.1), (7, tv (tabV (n4 2))), (0, ti n_)] [own rVal 22 (tabU (n4 2)) (tabV (n4 2)), rows rI 3 p210 (tabU (n4 2))] a w := (hst.pick [2, 3, 4, 5, 6])
            exact hK203 _ _ _ (Option.some.inj h).symm (hst.pick [0, 1, 2, 3, 4])
          replace h := hp210
          clear hp210
          refine wp_test 1 hst rfl (fun b218 => ?_) (fun b218 => ?_)
          · replace h := ite_t b218 h
            obtain ⟨r215, hr215, h⟩ := bind_some h
            obtain ⟨t64, ht64, h⟩ := bind_some h
            obtain ⟨t71, ht71, h⟩ := bind_some h
            obtain ⟨r216, hr216, h⟩ := bind_some h
            obtain ⟨t78, ht78, h⟩ := bind_some h
            obtain ⟨t82s, ht82s, h⟩ := bind_some h
            obtain ⟨m217, hm217, h⟩ := bind_some h
            refine wp_reg mixed [v0 (rows rI 3 m217 (tabU (n4 2)))] hst (fun _ => .p rfl (op_move (.t 5 rfl)) <| .p rfl (op_move (.t 4 rfl)) <| .u [0, 1] rfl rfl (op_indexT Try.underlying26 tokV22 (.t 1 rfl) (.t 0 rfl) hr215) <| .u [0, 1] rfl rfl (op_loadT2 tokV22 (.t 0 rfl) hr215) <| .p rfl (op_move (.t 6 rfl)) <| .p rfl (op_move (.t 10 rfl)) <| .p rfl (op_move (.t 9 rfl)) <| .u [0, 1] rfl rfl (op_indexT Try.underlying26 tokV22 (.t 1 rfl) (.t 0 rfl) hr215) <| .u [0, 1] rfl rfl (op_loadT2 tokV22 (.t 0 rfl) hr215) <| .p rfl (op_move (.t 11 rfl)) <| .u [1] rfl rfl (op_indexRi Try.underlying22 tok3 (.t 1 rfl) (.t 0 rfl) hr215 ht64) <| .u [1] rfl rfl (op_loadR tok3 (.t 0 rfl) hr215 ht64) <| .p rfl (op_move (.t 17 rfl)) <| .p rfl (op_move (.t 16 rfl)) <| .u [0, 1] rfl rfl (op_indexT Try.underlying26 tokV22 (.t 1 rfl) (.t 0 rfl) hr215) <| .u [0, 1] rfl rfl (op_loadT2 tokV22 (.t 0 rfl) hr215) <| .p rfl (op_move (.t 20 rfl)) <| .u [1] rfl rfl (op_indexRi Try.underlying22 tok3 (.t 1 rfl) (.t 0 rfl) hr215 ht71) <| .u [1] rfl rfl (op_loadR tok3 (.t 0 rfl) hr215 ht71) <| .p rfl (op_move (.t 24 rfl)) <| .p rfl (op_move (.t 24 rfl)) <| .u [0, 1] rfl rfl (op_indexT Try.underlying26 tokV22 (.t 1 rfl) (.t 0 rfl) hr216) <| .u [0, 1] rfl rfl (op_loadT2 tokV22 (.t 0 rfl) hr216) <| .p rfl (op_move (.t 25 rfl)) <| .u [1] rfl rfl (op_indexRi Try.underlying22 tok3 (.t 1 rfl) (.t 0 rfl) hr216 ht78) <| .u [1] rfl rfl (op_loadR tok3 (.t 0 rfl) hr216 ht78) <| .p rfl (op_add (.t 7 rfl) (.t 0 rfl)) <| .p rfl (op_min (.t 15 rfl) (.t 0 rfl)) <| .u [1] rfl rfl (op_indexRs Try.underlying22 tok3 (.t 24 rfl) (.t 23 rfl) hr215 ht82s) <| .e [] [1] [2] rfl rfl rfl rfl (op_storeR tok3 (.t 0 rfl) (.t 1 rfl) hr215 ht82s hm217) <| .nil _ _) (by kernel_rfl) (fun n15 a w hst => ?_)
            replace hst : St M w0 97 [(54, tv (tabV (n4 2))), (59, tv (tabV (n4 2))), (66, tv (tabV (n4 2))), (73, tv (tabV (n4 2))), (36, tv (tabV (n4 2))), (10, ti s184.1), (9, ti s135.1), (8, ti s12.1), (7, tv (tabV (n4 2))), (0, ti n_)] [own rVal 22 (tabU (n4 2)) (tabV (n4 2)), rows rI 3 m217 (tabU (n4 2))] a w := (hst.pick [0, 5, 12, 19, 29, 31, 32, 33, 34, 35])
            obtain rfl := Option.some.inj h
            exact hJp210 _ _ (hst.pick [5, 6, 7, 8, 9])
          · replace h := ite_f b218 h
            refine wp_skip ?_
            obtain rfl := Option.some.inj h
            exact hJp210 _ _ (hst.pick [2, 3, 4, 5, 6])
        · replace h := ite_f b219 h
          refine wp_exit ?_
          exact hJp202 _ _ _ (ho _ (Option.some.inj h).symm) (hst.pick [2, 3, 4, 5])
      · replace h := ite_f b220 h
        refine wp_exit ?_
        exact hJp178 _ _ _ (ho _ (Option.some.inj h).symm) (hst.pick [2, 3, 4])
    · replace h := ite_f b221 h
      refine wp_exit ?_
      exact hJp105 _ _ _ (ho _ (Option.some.inj h).symm) (hst.pick [2, 3])

/- diorama/bounds.closed -/
noncomputable def fclosed (n_ : Int) (l_ : (List SEdge)) : Option ((List (List Int)) × Bool) := (mk (IntKind.i64.wrap (n_ + (1:Int))) ([] : (List Int))).bind fun t19 => (tailrec (fun (s7 : Int × List (List Int)) => ((if (decide (s7.1 < (t19.length : Int))) = true then (fRepeat [(1099511627776:Int)] (IntKind.i64.wrap (n_ + (1:Int)))).bind fun t30 => (setAt s7.2 s7.1 t30).bind fun w31s => (idx w31s s7.1).bind fun r426 => (setAt r426 s7.1 (0:Int)).bind fun t37s => (setAt w31s s7.1 t37s).bind fun m427 => (some (.inl ((IntKind.i64.wrap (s7.1 + (1:Int))), m427))) else (some (.inr s7.2))) : Option ((Int × List (List Int)) ⊕ ((List (List Int)))))) ((0:Int), t19)).bind fun (p19 : (List (List Int))) => (tailrec (fun (s23 : Int × List (List Int)) => ((if (decide (s23.1 < (l_.length : Int))) = true then (idx l_ s23.1).bind fun t43 => (idx s23.2 (t43).a).bind fun r416 => (idx r416 (t43).b).bind fun t59 => (setAt r416 (t43).b (imin t59 (t43).n)).bind fun t64s => (setAt s23.2 (t43).a t64s).bind fun m417 => (some (.inl ((IntKind.i64.wrap (s23.1 + (1:Int))), m417))) else (some (.inr s23.2))) : Option ((Int × List (List Int)) ⊕ ((List (List Int)))))) ((0:Int), p19)).bind fun (p33 : (List (List Int))) => (tailrec (fun (s36 : Int × List (List Int)) => ((if (decide (s36.1 < (p33.length : Int))) = true then (mk (IntKind.i64.wrap (n_ + (1:Int))) (0:Int)).bind fun t73 => (idx s36.2 s36.1).bind fun r245 => (tailrec (fun (s247 : Int × List (List Int)) => ((if (decide (s247.1 < (s36.2.length : Int))) = true then ((idx s247.2 s247.1).bind fun r372 => (idx s247.2 s247.1).bind fun r375 => (idx r375 s36.1).bind fun t89 => (if (decide (t89 ≥ (1099511627776:Int))) = true then (some s247.2) else (tailrec (fun (s377 : Int × List (List Int)) => ((if (decide (s377.1 < ((cpy t73 r245).length : Int))) = true then (idx (cpy t73 r245) s377.1).bind fun t97 => ((if (decide (t97 < (1099511627776:Int))) = true then (idx s377.2 s247.1).bind fun r403 => (idx r403 s377.1).bind fun t108 => (idx r403 s36.1).bind fun t112 => (setAt r403 s377.1 (imin t108 (IntKind.i64.wrap (t112 + t97)))).bind fun t117s => (setAt s377.2 s247.1 t117s).bind fun m404 => (some m404) else (some s377.2))).bind fun (p399 : List (List Int)) => (some (.inl ((IntKind.i64.wrap (s377.1 + (1:Int))), p399))) else (some (.inr s377.2))) : Option ((Int × List (List Int)) ⊕ ((List (List Int)))))) ((0:Int), s247.2)).bind fun (p392 : (List (List Int))) => (some p392))).bind fun (p333 : List (List Int)) => (some (.inl ((IntKind.i64.wrap (s247.1 + (1:Int))), p333))) else (some (.inr s247.2))) : Option ((Int × List (List Int)) ⊕ ((List (List Int)))))) ((0:Int), s36.2)).bind fun (p328 : (List (List Int))) => (some (.inl ((IntKind.i64.wrap (s36.1 + (1:Int))), p328))) else (some (.inr s36.2))) : Option ((Int × List (List Int)) ⊕ ((List (List Int)))))) ((0:Int), p33)).bind fun (p210 : (List (List Int))) => (tailrec (fun (s213 : Int) => ((if (decide (s213 < (p210.length : Int))) = true then (idx p210 s213).bind fun r233 => (idx r233 s213).bind fun t131 => (if (decide (t131 < (0:Int))) = true then (some (.inr (.inr (([] : List (List Int)), false)))) else (some (.inl (IntKind.i64.wrap (s213 + (1:Int)))))) else (some (.inr (.inl ())))) : Option ((Int) ⊕ ((Unit) ⊕ ((List (List Int)) × Bool))))) (0:Int)).bind fun (e214 : (Unit) ⊕ ((List (List Int)) × Bool)) => (match e214 with | .inl p224 => (some (p210, true)) | .inr p225 => (some (p225.1, p225.2)))
set_option maxRecDepth 100000 in
set_option maxHeartbeats 4000000 in
theorem closed_ok {n_ : Int} {l_ : (List SEdge)} {r : (List (List Int)) × Bool} (h : fclosed n_ l_ = some r) : FnOk Try.prog 61 [ti n_, tsl rSEdge l_] [] (fun _ => []) (fun _ => ttup [tsl (rSl rI) r.1, tb r.2]) := by
  unfold fclosed at h
  refine FnOk.enter Try.func61 rfl Try.ntmps61 (Nat.le_of_ble_eq_true rfl) (fun M0 M w0 a hpl hst => ?_)
  replace hst : St M w0 136 [(0, ti n_), (1, tsl rSEdge l_)] [] a w0 := hst
  refine wp_seq_k (fun K1 hK1 => ?_)
  refine wp_reg mixed [] hst (fun _ => .p rfl (op_assign (.nilsl (R := (rSl rI)))) <| .p rfl (op_assign .k) <| .nil _ _) (by kernel_rfl) (fun n0 a w hst => ?_)
  replace hst : St M w0 136 [(0, ti n_), (1, tsl rSEdge l_)] [] a w := (hst.pick [2, 3])
  refine hK1 _ _ ?_
  try clear hK1 K1
  refine wp_seq_k (fun K2 hK2 => ?_)
  obtain ⟨t19, ht19, h⟩ := bind_some h
  refine wp_reg mixed [v1 2 (fun v0 => own rVal 22 (List.replicate ((IntKind.i64.wrap (n_ + (1:Int)))).toNat nilV) v0)] hst (fun _ => .p rfl (op_move (.t 0 rfl)) <| .p rfl (op_add (.t 0 rfl) .k) <| .m [] [0] rfl rfl rfl (op_makeT (α := Int) Try.underlying26 tokV22 (Nat.le_of_ble_eq_true rfl) (.t 0 rfl) (.t 0 rfl) ht19) <| .ud (f := fun v => tv v) 2 rfl [] rfl rfl (op_assign (.t 0 rfl)) <| .nil _ _) (by kernel_rfl) (fun n1 a w hst => ?_)
  replace hst : St M w0 136 [(19, tv (n1 2)), (6, tv (n1 2)), (0, ti n_), (1, tsl rSEdge l_)] [rows rI 3 t19 (List.replicate ((IntKind.i64.wrap (n_ + (1:Int)))).toNat nilV), own rVal 22 (List.replicate ((IntKind.i64.wrap (n_ + (1:Int)))).toNat nilV) (n1 2)] a w := ((hst.pick [2, 3, 4, 5]).rowsM (rI) 3 ht19)
  refine hK2 _ _ ?_
  try clear hK2 K2
  refine wp_seq_k (fun K5 hK5 => ?_)
  refine wp_seq_k (fun K6 hK6 => ?_)
  refine wp_reg mixed [] hst (fun _ => .p rfl (op_move (.t 1 rfl)) <| .u [1, 0] rfl rfl (op_lenT Try.underlying26 (.t 0 rfl)) <| .p rfl (op_move .k) <| .nil _ _) (by kernel_rfl) (fun n2 a w hst => ?_)
  replace hst : St M w0 136 [(20, tv (n1 2)), (21, ti (t19.length : Int)), (22, ti (0:Int)), (19, tv (n1 2)), (6, tv (n1 2)), (0, ti n_), (1, tsl rSEdge l_)] [rows rI 3 t19 (List.replicate ((IntKind.i64.wrap (n_ + (1:Int)))).toNat nilV), own rVal 22 (List.replicate ((IntKind.i64.wrap (n_ + (1:Int)))).toNat nilV) (n1 2)] a w := (hst.pick [0, 1, 2, 3, 4, 5, 6])
  refine hK6 _ _ ?_
  try clear hK6 K6
  obtain ⟨e9, he9, h⟩ := bind_some h
  have hJp19 : ∀ (p19 : List (List Int)) (us20 : List Value) a w, p19 = e9 → St M w0 136 [(6, tv (n1 2)), (0, ti n_), (1, tsl rSEdge l_)] [rows rI 3 p19 us20, own rVal 22 us20 (n1 2)] a w → K5 a w := by
    intro p19 us20 a w he hst
    subst he
    refine hK5 _ _ ?_
    try clear hK5 K5
    refine wp_seq_k (fun K21 hK21 => ?_)
    refine wp_seq_k (fun K22 hK22 => ?_)
    refine wp_reg mixed [] hst (fun _ => .p rfl (op_move (.t 2 rfl)) <| .p rfl (op_len Try.underlying84 (.t 0 rfl)) <| .p rfl (op_move .k) <| .nil _ _) (by kernel_rfl) (fun n8 a w hst => ?_)
    replace hst : St M w0 136 [(39, tsl rSEdge l_), (40, ti (l_.length : Int)), (41, ti (0:Int)), (6, tv (n1 2)), (0, ti n_)] [rows rI 3 p19 us20, own rVal 22 us20 (n1 2)] a w := (hst.pick [0, 1, 2, 3, 4])
    refine hK22 _ _ ?_
    try clear hK22 K22
    obtain ⟨e24, he24, h⟩ := bind_some h
    have hJp33 : ∀ (p33 : List (List Int)) a w, p33 = e24 → St M w0 136 [(6, tv (n1 2)), (0, ti n_)] [rows rI 3 p33 us20, own rVal 22 us20 (n1 2)] a w → K21 a w := by
      intro p33 a w he hst
      subst he
      refine hK21 _ _ ?_
      try clear hK21 K21
      refine wp_seq_k (fun K34 hK34 => ?_)
      refine wp_seq_k (fun K35 hK35 => ?_)
      refine wp_reg mixed [] hst (fun _ => .p rfl (op_move (.t 0 rfl)) <| .u [1, 0] rfl rfl (op_lenT Try.underlying26 (.t 0 rfl)) <| .p rfl (op_move .k) <| .nil _ _) (by kernel_rfl) (fun n13 a w hst => ?_)
      replace hst : St M w0 136 [(66, tv (n1 2)), (67, ti (p33.length : Int)), (68, ti (0:Int)), (6, tv (n1 2)), (0, ti n_)] [rows rI 3 p33 us20, own rVal 22 us20 (n1 2)] a w := (hst.pick [0, 1, 2, 3, 4])
      refine hK35 _ _ ?_
      try clear hK35 K35
      obtain ⟨e37, he37, h⟩ := bind_some h
      have hJp210 : ∀ (p210 : List (List Int)) a w, p210 = e37 → St M w0 136 [(6, tv (n1 2))] [rows rI 3 p210 us20, own rVal 22 us20 (n1 2)] a w → K34 a w := by
        intro p210 a w he hst
        subst he
        refine hK34 _ _ ?_
        try clear hK34 K34
        refine wp_seq_k (fun K211 hK211 => ?_)
        refine wp_seq_k (fun K212 hK212 => ?_)
        refine wp_reg mixed [] hst (fun _ => .p rfl (op_move (.t 0 rfl)) <| .u [1, 0] rfl rfl (op_lenT Try.underlying26 (.t 0 rfl)) <| .p rfl (op_move .k) <| .nil _ _) (by kernel_rfl) (fun n30 a w hst => ?_)
        replace hst : St M w0 136 [(121, tv (n1 2)), (122, ti (p210.length : Int)), (123, ti (0:Int)), (6, tv (n1 2))] [rows rI 3 p210 us20, own rVal 22 us20 (n1 2)] a w := (hst.pick [0, 1, 2, 3])
        refine hK212 _ _ ?_
        try clear hK212 K212
        obtain ⟨e214, he214, h⟩ := bind_some h
        have hJp224 : ∀ (p224 : Unit) a w, (.inl p224) = e214 → St M w0 136 [(6, tv (n1 2))] [rows rI 3 p210 us20, own rVal 22 us20 (n1 2)] a w → K211 a w := by
          intro p224 a w he hst
          subst he
          simp only at h
          refine hK211 _ _ ?_
          try clear hK211 K211
          refine wp_seq_k (fun K226 hK226 => ?_)
          refine wp_reg mixed [] hst (fun _ => .p rfl (op_move (.t 0 rfl)) <| .p rfl (op_assign (.t 0 rfl)) <| .p rfl (op_assign .k) <| .nil _ _) (by kernel_rfl) (fun n36 a w hst => ?_)
          replace hst : St M w0 136 [(135, tv (n1 2)), (4, tv (n1 2)), (5, tb true), (6, tv (n1 2))] [rows rI 3 p210 us20, own rVal 22 us20 (n1 2)] a w := (hst.pick [0, 1, 2, 3])
          refine hK226 _ _ ?_
          try clear hK226 K226
          refine wp_ret ?_
          replace hst : St M w0 136 [(4, tsl (rSl rI) p210), (5, tb true)] [] a w := (((hst.selA [1, 0] rfl).shareT 1 rfl).pick [0, 3])
          obtain rfl := Option.some.inj h
          exact ret_st undef [] hpl hst rfl (.tmp (.t 0 rfl) (.tmp (.t 1 rfl) .nil)) rfl rfl rfl
        have hJp225 : ∀ (p225 : (List (List Int)) × Bool) a w, (.inr p225) = e214 → St M w0 136 [(4, tsl (rSl rI) p225.1), (5, tb p225.2)] [] a w → Ret Try.prog Try.f61 M0 [] w0 (fun _ => []) (fun _ => ttup [tsl (rSl rI) r.1, tb r.2]) .ret a w := by
          intro p225 a w he hst
          subst he
          simp only at h
          obtain rfl := Option.some.inj h
          exact ret_st undef [] hpl hst rfl (.tmp (.t 0 rfl) (.tmp (.t 1 rfl) .nil)) rfl rfl rfl
        refine wp_block ?_
        refine wp_loopK _ (fun (s213 : Int) a w => St M w0 136 [(122, ti (p210.length : Int)), (123, ti s213), (6, tv (n1 2))] [rows rI 3 p210 us20, own rVal 22 us20 (n1 2)] a w) _ _ he214 (hst.pick [1, 2, 3]) ?_
        clear h
        intro s213 o a w K227 hI h ho hK227
        have hst := hI
        clear hI
        refine wp_seq_k (fun K228 hK228 => ?_)
        refine wp_reg mixed [] hst (fun _ => .p rfl (op_lss (.t 1 rfl) (.t 0 rfl)) <| .nil _ _) (by kernel_rfl) (fun n31 a w hst => ?_)
        replace hst : St M w0 136 [(124, tb (decide (s213 < (p210.length : Int)))), (122, ti (p210.length : Int)), (123, ti s213), (6, tv (n1 2))] [rows rI 3 p210 us20, own rVal 22 us20 (n1 2)] a w := (hst.pick [0, 1, 2, 3])
        refine hK228 _ _ ?_
        try clear hK228 K228
        refine wp_seq_k (fun K229 hK229 => ?_)
        refine wp_test 0 hst rfl (fun b236 => ?_) (fun b236 => ?_)
        · replace h := ite_t b236 h
          refine wp_skip ?_
          refine hK229 _ _ ?_
          try clear hK229 K229
          refine wp_seq_k (fun K230 hK230 => ?_)
          refine wp_block ?_
          refine wp_seq_k (fun K231 hK231 => ?_)
          refine wp_reg mixed [] hst (fun _ => .p rfl (op_move (.t 2 rfl)) <| .p rfl (op_assign (.t 0 rfl)) <| .nil _ _) (by kernel_rfl) (fun n32 a w hst => ?_)
          replace hst : St M w0 136 [(16, ti s213), (122, ti (p210.length : Int)), (123, ti s213), (6, tv (n1 2))] [rows rI 3 p210 us20, own rVal 22 us20 (n1 2)] a w := (hst.pick [1, 3, 4, 5])
          refine hK231 _ _ ?_
          try clear hK231 K231
          refine wp_seq_k (fun K232 hK232 => ?_)
          obtain ⟨r233, hr233, h⟩ := bind_some h
          obtain ⟨t131, ht131, h⟩ := bind_some h
          refine wp_reg mixed [] hst (fun _ => .p rfl (op_move (.t 3 rfl)) <| .p rfl (op_move (.t 1 rfl)) <| .u [1, 0] rfl rfl (op_indexT Try.underlying26 tokV22 (.t 1 rfl) (.t 0 rfl) hr233) <| .u [1, 0] rfl rfl (op_loadT2 tokV22 (.t 0 rfl) hr233) <| .p rfl (op_move (.t 4 rfl)) <| .u [0] rfl rfl (op_indexRi Try.underlying22 tok3 (.t 1 rfl) (.t 0 rfl) hr233 ht131) <| .u [0] rfl rfl (op_loadR tok3 (.t 0 rfl) hr233 ht131) <| .p rfl (op_lss (.t 0 rfl) .k) <| .nil _ _) (by kernel_rfl) (fun n33 a w hst => ?_)
          replace hst : St M w0 136 [(126, tv (n1 2)), (133, tb (decide (t131 < (0:Int)))), (122, ti (p210.length : Int)), (123, ti s213), (6, tv (n1 2))] [rows rI 3 p210 us20, own rVal 22 us20 (n1 2)] a w := (hst.pick [0, 7, 9, 10, 11])
          refine hK232 _ _ ?_
          try clear hK232 K232
          refine wp_test 1 hst rfl (fun b235 => ?_) (fun b235 => ?_)
          · replace h := ite_t b235 h
            refine wp_seq_k (fun K234 hK234 => ?_)
            refine wp_reg mixed [] hst (fun _ => .p rfl (op_assign (.nilsl (R := (rSl rI)))) <| .p rfl (op_assign .k) <| .nil _ _) (by kernel_rfl) (fun n34 a w hst => ?_)
            replace hst : St M w0 136 [(4, tsl (rSl rI) ([] : List (List Int))), (5, tb false), (126, tv (n1 2)), (6, tv (n1 2))] [rows rI 3 p210 us20, own rVal 22 us20 (n1 2)] a w := (hst.pick [0, 1, 2, 6])
            refine hK234 _ _ ?_
            try clear hK234 K234
            refine wp_ret ?_
            exact hJp225 _ _ _ (ho _ (Option.some.inj h).symm) ((hst.pick [0, 1]).selA [] rfl)
          · replace h := ite_f b235 h
            refine wp_skip ?_
            refine hK230 _ _ ?_
            try clear hK230 K230
            refine wp_reg mixed [] hst (fun _ => .p rfl (op_add (.t 3 rfl) .k) <| .p rfl (op_move (.t 0 rfl)) <| .nil _ _) (by kernel_rfl) (fun n35 a w hst => ?_)
            replace hst : St M w0 136 [(123, ti (IntKind.i64.wrap (s213 + (1:Int)))), (126, tv (n1 2)), (122, ti (p210.length : Int)), (6, tv (n1 2))] [rows rI 3 p210 us20, own rVal 22 us20 (n1 2)] a w := (hst.pick [1, 2, 4, 5])
            exact hK227 _ _ _ (Option.some.inj h).symm (hst.pick [2, 0, 3])
        · replace h := ite_f b236 h
          refine wp_exit ?_
          exact hJp224 _ _ _ (ho _ (Option.some.inj h).symm) (hst.pick [3])
      refine wp_block ?_
      refine wp_loopK _ (fun (s36 : Int × List (List Int)) a w => St M w0 136 [(67, ti (p33.length : Int)), (68, ti s36.1), (6, tv (n1 2)), (0, ti n_)] [rows rI 3 s36.2 us20, own rVal 22 us20 (n1 2)] a w) _ _ he37 (hst.pick [1, 2, 3, 4]) ?_
      clear h
      intro s36 o a w K237 hI h ho hK237
      have hst := hI
      clear hI
      refine wp_seq_k (fun K238 hK238 => ?_)
      refine wp_reg mixed [] hst (fun _ => .p rfl (op_lss (.t 1 rfl) (.t 0 rfl)) <| .nil _ _) (by kernel_rfl) (fun n14 a w hst => ?_)
      replace hst : St M w0 136 [(69, tb (decide (s36.1 < (p33.length : Int)))), (67, ti (p33.length : Int)), (68, ti s36.1), (6, tv (n1 2)), (0, ti n_)] [rows rI 3 s36.2 us20, own rVal 22 us20 (n1 2)] a w := (hst.pick [0, 1, 2, 3, 4])
      refine hK238 _ _ ?_
      try clear hK238 K238
      refine wp_seq_k (fun K239 hK239 => ?_)
      refine wp_test 0 hst rfl (fun b409 => ?_) (fun b409 => ?_)
      · replace h := ite_t b409 h
        refine wp_skip ?_
        refine hK239 _ _ ?_
        try clear hK239 K239
        refine wp_seq_k (fun K240 hK240 => ?_)
        refine wp_block ?_
        refine wp_seq_k (fun K241 hK241 => ?_)
        refine wp_reg mixed [] hst (fun _ => .p rfl (op_move (.t 2 rfl)) <| .p rfl (op_assign (.t 0 rfl)) <| .nil _ _) (by kernel_rfl) (fun n15 a w hst => ?_)
        replace hst : St M w0 136 [(10, ti s36.1), (67, ti (p33.length : Int)), (68, ti s36.1), (6, tv (n1 2)), (0, ti n_)] [rows rI 3 s36.2 us20, own rVal 22 us20 (n1 2)] a w := (hst.pick [1, 3, 4, 5, 6])
        refine hK241 _ _ ?_
        try clear hK241 K241
        refine wp_seq_k (fun K242 hK242 => ?_)
        obtain ⟨t73, ht73, h⟩ := bind_some h
        refine wp_reg mixed [v1 2 (fun v0 => own rI 3 t73 v0)] hst (fun _ => .p rfl (op_move (.t 4 rfl)) <| .p rfl (op_add (.t 0 rfl) .k) <| .m [] [2] rfl rfl rfl (op_makeO (R := rI) Try.underlying22 tok3 zok3 (Nat.le_of_ble_eq_true rfl) (.t 0 rfl) (.t 0 rfl) ht73) <| .ud (f := fun v => tv v) 2 rfl [] rfl rfl (op_assign (.t 0 rfl)) <| .nil _ _) (by kernel_rfl) (fun n16 a w hst => ?_)
        replace hst : St M w0 136 [(73, tv (n16 2)), (11, tv (n16 2)), (10, ti s36.1), (67, ti (p33.length : Int)), (68, ti s36.1), (6, tv (n1 2)), (0, ti n_)] [rows rI 3 s36.2 us20, own rVal 22 us20 (n1 2), own rI 3 t73 (n16 2)] a w := (hst.pick [2, 3, 4, 5, 6, 7, 8])
        refine hK242 _ _ ?_
        try clear hK242 K242
        refine wp_seq_k (fun K244 hK244 => ?_)
        obtain ⟨r245, hr245, h⟩ := bind_some h
        refine wp_reg mixed [v0 (own rI 3 (cpy t73 r245) (n16 2))] hst (fun _ => .p rfl (op_move (.t 1 rfl)) <| .p rfl (op_move (.t 6 rfl)) <| .p rfl (op_move (.t 4 rfl)) <| .u [1, 0] rfl rfl (op_indexT Try.underlying26 tokV22 (.t 1 rfl) (.t 0 rfl) hr245) <| .u [1, 0] rfl rfl (op_loadT2 tokV22 (.t 0 rfl) hr245) <| .e [0] [2] [3] rfl rfl rfl rfl (op_copyR (R := rI) Try.underlying22 rfl tok3 (.t 4 rfl) (.t 0 rfl) hr245) <| .nil _ _) (by kernel_rfl) (fun n17 a w hst => ?_)
        replace hst : St M w0 136 [(74, tv (n16 2)), (75, tv (n1 2)), (73, tv (n16 2)), (11, tv (n16 2)), (10, ti s36.1), (67, ti (p33.length : Int)), (68, ti s36.1), (6, tv (n1 2)), (0, ti n_)] [rows rI 3 s36.2 us20, own rVal 22 us20 (n1 2), own rI 3 (cpy t73 r245) (n16 2)] a w := (hst.pick [0, 1, 6, 7, 8, 9, 10, 11, 12])
        refine hK244 _ _ ?_
        try clear hK244 K244
        refine wp_seq_k (fun K246 hK246 => ?_)
        refine wp_reg mixed [] hst (fun _ => .p rfl (op_move (.t 7 rfl)) <| .u [1, 0] rfl rfl (op_lenT Try.underlying26 (.t 0 rfl)) <| .p rfl (op_move .k) <| .nil _ _) (by kernel_rfl) (fun n18 a w hst => ?_)
        replace hst : St M w0 136 [(80, tv (n1 2)), (81, ti (s36.2.length : Int)), (82, ti (0:Int)), (74, tv (n16 2)), (75, tv (n1 2)), (73, tv (n16 2)), (11, tv (n16 2)), (10, ti s36.1), (67, ti (p33.length : Int)), (68, ti s36.1), (6, tv (n1 2)), (0, ti n_)] [rows rI 3 s36.2 us20, own rVal 22 us20 (n1 2), own rI 3 (cpy t73 r245) (n16 2)] a w := (hst.pick [0, 1, 2, 3, 4, 5, 6, 7, 8, 9, 10, 11])
        refine hK246 _ _ ?_
        try clear hK246 K246
        obtain ⟨e248, he248, h⟩ := bind_some h
        have hJp328 : ∀ (p328 : List (List Int)) a w, p328 = e248 → St M w0 136 [(67, ti (p33.length : Int)), (68, ti s36.1), (6, tv (n1 2)), (0, ti n_)] [rows rI 3 p328 us20, own rVal 22 us20 (n1 2)] a w → K240 a w := by
          intro p328 a w he hst
          subst he
          refine hK240 _ _ ?_
          try clear hK240 K240
          refine wp_reg mixed [] hst (fun _ => .p rfl (op_add (.t 1 rfl) .k) <| .p rfl (op_move (.t 0 rfl)) <| .nil _ _) (by kernel_rfl) (fun n29 a w hst => ?_)
          replace hst : St M w0 136 [(68, ti (IntKind.i64.wrap (s36.1 + (1:Int)))), (67, ti (p33.length : Int)), (6, tv (n1 2)), (0, ti n_)] [rows rI 3 p328 us20, own rVal 22 us20 (n1 2)] a w := (hst.pick [1, 2, 3, 4])
          exact hK237 _ _ _ (Option.some.inj h).symm (hst.pick [1, 0, 2, 3])
        refine wp_block ?_
        refine wp_loopK _ (fun (s247 : Int × List (List Int)) a w => St M w0 136 [(80, tv (n1 2)), (81, ti (s36.2.length : Int)), (82, ti s247.1), (11, tv (n16 2)), (10, ti s36.1), (67, ti (p33.length : Int)), (68, ti s36.1), (6, tv (n1 2)), (0, ti n_)] [rows rI 3 s247.2 us20, own rVal 22 us20 (n1 2), own rI 3 (cpy t73 r245) (n16 2)] a w) _ _ he248 (hst.pick [0, 1, 2, 6, 7, 8, 9, 10, 11]) ?_
        clear h
        intro s247 o a w K329 hI h ho hK329
        have hst := hI
        clear hI
        refine wp_seq_k (fun K330 hK330 => ?_)
        refine wp_reg mixed [] hst (fun _ => .p rfl (op_lss (.t 2 rfl) (.t 1 rfl)) <| .nil _ _) (by kernel_rfl) (fun n19 a w hst => ?_)
        replace hst : St M w0 136 [(83, tb (decide (s247.1 < (s36.2.length : Int)))), (80, tv (n1 2)), (81, ti (s36.2.length : Int)), (82, ti s247.1), (11, tv (n16 2)), (10, ti s36.1), (67, ti (p33.length : Int)), (68, ti s36.1), (6, tv (n1 2)), (0, ti n_)] [rows rI 3 s247.2 us20, own rVal 22 us20 (n1 2), own rI 3 (cpy t73 r245) (n16 2)] a w := (hst.pick [0, 1, 2, 3, 4, 5, 6, 7, 8, 9])
        refine hK330 _ _ ?_
        try clear hK330 K330
        refine wp_seq_k (fun K331 hK331 => ?_)
        refine wp_test 0 hst rfl (fun b408 => ?_) (fun b408 => ?_)
        · replace h := ite_t b408 h
          refine wp_skip ?_
          refine hK331 _ _ ?_
          try clear hK331 K331
          refine wp_seq_k (fun K332 hK332 => ?_)
          obtain ⟨p333, hp333, h⟩ := bind_some h
          have hJp333 : ∀ a w, St M w0 136 [(80, tv (n1 2)), (81, ti (s36.2.length : Int)), (82, ti s247.1), (11, tv (n16 2)), (10, ti s36.1), (67, ti (p33.length : Int)), (68, ti s36.1), (6, tv (n1 2)), (0, ti n_)] [rows rI 3 p333 us20, own rVal 22 us20 (n1 2), own rI 3 (cpy t73 r245) (n16 2)] a w → K332 a w := by
            intro a w hst
            refine hK332 _ _ ?_
            try clear hK332 K332
            refine wp_reg mixed [] hst (fun _ => .p rfl (op_add (.t 2 rfl) .k) <| .p rfl (op_move (.t 0 rfl)) <| .nil _ _) (by kernel_rfl) (fun n28 a w hst => ?_)
            replace hst : St M w0 136 [(82, ti (IntKind.i64.wrap (s247.1 + (1:Int)))), (80, tv (n1 2)), (81, ti (s36.2.length : Int)), (11, tv (n16 2)), (10, ti s36.1), (67, ti (p33.length : Int)), (68, ti s36.1), (6, tv (n1 2)), (0, ti n_)] [rows rI 3 p333 us20, own rVal 22 us20 (n1 2), own rI 3 (cpy t73 r245) (n16 2)] a w := (hst.pick [1, 2, 3, 4, 5, 6, 7, 8, 9])
            exact hK329 _ _ _ (Option.some.inj h).symm (hst.pick [1, 2, 0, 3, 4, 5, 6, 7, 8])
          replace h := hp333
          clear hp333
          refine wp_block ?_
          refine wp_seq_k (fun K371 hK371 => ?_)
          obtain ⟨r372, hr372, h⟩ := bind_some h
          refine wp_reg mixed [] hst (fun _ => .p rfl (op_move (.t 3 rfl)) <| .u [1, 0] rfl rfl (op_indexT Try.underlying26 tokV22 (.t 2 rfl) (.t 4 rfl) hr372) <| .u [1, 0] rfl rfl (op_loadT2 tokV22 (.t 0 rfl) hr372) <| .p rfl (op_assign (.t 2 rfl)) <| .p rfl (op_assign (.t 1 rfl)) <| .nil _ _) (by kernel_rfl) (fun n20 a w hst => ?_)
          replace hst : St M w0 136 [(12, ti s247.1), (13, tv (usAt us20 s247.1)), (80, tv (n1 2)), (81, ti (s36.2.length : Int)), (82, ti s247.1), (11, tv (n16 2)), (10, ti s36.1), (67, ti (p33.length : Int)), (68, ti s36.1), (6, tv (n1 2)), (0, ti n_)] [rows rI 3 s247.2 us20, own rVal 22 us20 (n1 2), own rI 3 (cpy t73 r245) (n16 2)] a w := (hst.pick [3, 4, 6, 7, 8, 9, 10, 11, 12, 13, 14])
          refine hK371 _ _ ?_
          try clear hK371 K371
          refine wp_seq_k (fun K373 hK373 => ?_)
          refine wp_seq_k (fun K374 hK374 => ?_)
          obtain ⟨r375, hr375, h⟩ := bind_some h
          obtain ⟨t89, ht89, h⟩ := bind_some h
          refine wp_reg mixed [] hst (fun _ => .p rfl (op_move (.t 1 rfl)) <| .p rfl (op_move (.t 7 rfl)) <| .u [0] rfl rfl (op_indexRi Try.underlying22 tok3 (.t 1 rfl) (.t 0 rfl) hr375 ht89) <| .u [0] rfl rfl (op_loadR tok3 (.t 0 rfl) hr375 ht89) <| .p rfl (op_geq (.t 0 rfl) .k) <| .nil _ _) (by kernel_rfl) (fun n21 a w hst => ?_)
          replace hst : St M w0 136 [(91, tb (decide (t89 ≥ (1099511627776:Int)))), (12, ti s247.1), (13, tv (usAt us20 s247.1)), (80, tv (n1 2)), (81, ti (s36.2.length : Int)), (82, ti s247.1), (11, tv (n16 2)), (10, ti s36.1), (67, ti (p33.length : Int)), (68, ti s36.1), (6, tv (n1 2)), (0, ti n_)] [rows rI 3 s247.2 us20, own rVal 22 us20 (n1 2), own rI 3 (cpy t73 r245) (n16 2)] a w := (hst.pick [4, 5, 6, 7, 8, 9, 10, 11, 12, 13, 14, 15])
          refine hK374 _ _ ?_
          try clear hK374 K374
          refine wp_test 0 hst rfl (fun b407 => ?_) (fun b407 => ?_)
          · replace h := ite_t b407 h
            refine wp_exit ?_
            obtain rfl := Option.some.inj h
            exact hJp333 _ _ (hst.pick [3, 4, 5, 6, 7, 8, 9, 10, 11])
          · replace h := ite_f b407 h
            refine wp_skip ?_
            refine hK373 _ _ ?_
            try clear hK373 K373
            refine wp_seq_k (fun K376 hK376 => ?_)
            refine wp_reg mixed [] hst (fun _ => .p rfl (op_move (.t 6 rfl)) <| .u [2] rfl rfl (op_lenO Try.underlying22 (.t 0 rfl)) <| .p rfl (op_move .k) <| .nil _ _) (by kernel_rfl) (fun n22 a w hst => ?_)
            replace hst : St M w0 136 [(92, tv (n16 2)), (93, ti ((cpy t73 r245).length : Int)), (94, ti (0:Int)), (12, ti s247.1), (13, tv (usAt us20 s247.1)), (80, tv (n1 2)), (81, ti (s36.2.length : Int)), (82, ti s247.1), (11, tv (n16 2)), (10, ti s36.1), (67, ti (p33.length : Int)), (68, ti s36.1), (6, tv (n1 2)), (0, ti n_)] [rows rI 3 s247.2 us20, own rVal 22 us20 (n1 2), own rI 3 (cpy t73 r245) (n16 2)] a w := (hst.pick [0, 1, 2, 4, 5, 6, 7, 8, 9, 10, 11, 12, 13, 14])
            refine hK376 _ _ ?_
            try clear hK376 K376
            obtain ⟨e378, he378, h⟩ := bind_some h
            have hJp392 : ∀ (p392 : List (List Int)) a w, p392 = e378 → St M w0 136 [(80, tv (n1 2)), (81, ti (s36.2.length : Int)), (82, ti s247.1), (11, tv (n16 2)), (10, ti s36.1), (67, ti (p33.length : Int)), (68, ti s36.1), (6, tv (n1 2)), (0, ti n_)] [rows rI 3 p392 us20, own rVal 22 us20 (n1 2), own rI 3 (cpy t73 r245) (n16 2)] a w → K332 a w := by
              intro p392 a w he hst
              subst he
              obtain rfl := Option.some.inj h
              exact hJp333 _ _ (hst.pick [0, 1, 2, 3, 4, 5, 6, 7, 8])
            refine wp_block ?_
            refine wp_loopK _ (fun (s377 : Int × List (List Int)) a w => St M w0 136 [(92, tv (n16 2)), (93, ti ((cpy t73 r245).length : Int)), (94, ti s377.1), (12, ti s247.1), (13, tv (usAt us20 s247.1)), (80, tv (n1 2)), (81, ti (s36.2.length : Int)), (82, ti s247.1), (11, tv (n16 2)), (10, ti s36.1), (67, ti (p33.length : Int)), (68, ti s36.1), (6, tv (n1 2)), (0, ti n_)] [rows rI 3 s377.2 us20, own rVal 22 us20 (n1 2), own rI 3 (cpy t73 r245) (n16 2)] a w) _ _ he378 (hst.pick [0, 1, 2, 3, 4, 5, 6, 7, 8, 9, 10, 11, 12, 13]) ?_
            clear h
            intro s377 o a w K393 hI h ho hK393
            have hst := hI
            clear hI
            refine wp_seq_k (fun K394 hK394 => ?_)
            refine wp_reg mixed [] hst (fun _ => .p rfl (op_lss (.t 2 rfl) (.t 1 rfl)) <| .nil _ _) (by kernel_rfl) (fun n23 a w hst => ?_)
            replace hst : St M w0 136 [(95, tb (decide (s377.1 < ((cpy t73 r245).length : Int)))), (92, tv (n16 2)), (93, ti ((cpy t73 r245).length : Int)), (94, ti s377.1), (12, ti s247.1), (13, tv (usAt us20 s247.1)), (80, tv (n1 2)), (81, ti (s36.2.length : Int)), (82, ti s247.1), (11, tv (n16 2)), (10, ti s36.1), (67, ti (p33.length : Int)), (68, ti s36.1), (6, tv (n1 2)), (0, ti n_)] [rows rI 3 s377.2 us20, own rVal 22 us20 (n1 2), own rI 3 (cpy t73 r245) (n16 2)] a w := (hst.pick [0, 1, 2, 3, 4, 5, 6, 7, 8, 9, 10, 11, 12, 13, 14])
            refine hK394 _ _ ?_
            try clear hK394 K394
            refine wp_seq_k (fun K395 hK395 => ?_)
            refine wp_test 0 hst rfl (fun b406 => ?_) (fun b406 => ?_)
            · replace h := ite_t b406 h
              refine wp_skip ?_
              refine hK395 _ _ ?_
              try clear hK395 K395
              refine wp_seq_k (fun K396 hK396 => ?_)
              refine wp_block ?_
              refine wp_seq_k (fun K397 hK397 => ?_)
              obtain ⟨t97, ht97, h⟩ := bind_some h
              refine wp_reg mixed [] hst (fun _ => .p rfl (op_move (.t 3 rfl)) <| .u [2] rfl rfl (op_indexOi Try.underlying22 tok3 (.t 2 rfl) (.t 4 rfl) ht97) <| .u [2] rfl rfl (op_loadO tok3 (.t 0 rfl) ht97) <| .p rfl (op_assign (.t 2 rfl)) <| .p rfl (op_assign (.t 1 rfl)) <| .nil _ _) (by kernel_rfl) (fun n24 a w hst => ?_)
              replace hst : St M w0 136 [(14, ti s377.1), (15, ti t97), (92, tv (n16 2)), (93, ti ((cpy t73 r245).length : Int)), (94, ti s377.1), (12, ti s247.1), (13, tv (usAt us20 s247.1)), (80, tv (n1 2)), (81, ti (s36.2.length : Int)), (82, ti s247.1), (11, tv (n16 2)), (10, ti s36.1), (67, ti (p33.length : Int)), (68, ti s36.1), (6, tv (n1 2)), (0, ti n_)] [rows rI 3 s377.2 us20, own rVal 22 us20 (n1 2), own rI 3 (cpy t73 r245) (n16 2)] a w := (hst.pick [3, 4, 6, 7, 8, 9, 10, 11, 12, 13, 14, 15, 16, 17, 18, 19])
              refine hK397 _ _ ?_
              try clear hK397 K397
              refine wp_seq_k (fun K398 hK398 => ?_)
              refine wp_reg mixed [] hst (fun _ => .p rfl (op_move (.t 1 rfl)) <| .p rfl (op_lss (.t 0 rfl) .k) <| .nil _ _) (by kernel_rfl) (fun n25 a w hst => ?_)
              replace hst : St M w0 136 [(100, tb (decide (t97 < (1099511627776:Int)))), (14, ti s377.1), (15, ti t97), (92, tv (n16 2)), (93, ti ((cpy t73 r245).length : Int)), (94, ti s377.1), (12, ti s247.1), (13, tv (usAt us20 s247.1)), (80, tv (n1 2)), (81, ti (s36.2.length : Int)), (82, ti s247.1), (11, tv (n16 2)), (10, ti s36.1), (67, ti (p33.length : Int)), (68, ti s36.1), (6, tv (n1 2)), (0, ti n_)] [rows rI 3 s377.2 us20, own rVal 22 us20 (n1 2), own rI 3 (cpy t73 r245) (n16 2)] a w := (hst.pick [1, 2, 3, 4, 5, 6, 7, 8, 9, 10, 11, 12, 13, 14, 15, 16, 17])
              refine hK398 _ _ ?_
              try clear hK398 K398
              obtain ⟨p399, hp399, h⟩ := bind_some h
              have hJp399 : ∀ a w, St M w0 136 [(92, tv (n16 2)), (93, ti ((cpy t73 r245).length : Int)), (94, ti s377.1), (12, ti s247.1), (13, tv (usAt us20 s247.1)), (80, tv (n1 2)), (81, ti (s36.2.length : Int)), (82, ti s247.1), (11, tv (n16 2)), (10, ti s36.1), (67, ti (p33.length : Int)), (68, ti s36.1), (6, tv (n1 2)), (0, ti n_)] [own rVal 22 us20 (n1 2), own rI 3 (cpy t73 r245) (n16 2), rows rI 3 p399 us20] a w → K396 a w := by
                intro a w hst
                refine hK396 _ _ ?_
                try clear hK396 K396
                refine wp_reg mixed [] hst (fun _ => .p rfl (op_add (.t 2 rfl) .k) <| .p rfl (op_move (.t 0 rfl)) <| .nil _ _) (by kernel_rfl) (fun n27 a w hst => ?_)
                replace hst : St M w0 136 [(94, ti (IntKind.i64.wrap (s377.1 + (1:Int)))), (92, tv (n16 2)), (93, ti ((cpy t73 r245).length : Int)), (12, ti s247.1), (13, tv (usAt us20 s247.1)), (80, tv (n1 2)), (81, ti (s36.2.length : Int)), (82, ti s247.1), (11, tv (n16 2)), (10, ti s36.1), (67, ti (p33.length : Int)), (68, ti s36.1), (6, tv (n1 2)), (0, ti n_)] [own rVal 22 us20 (n1 2), own rI 3 (cpy t73 r245) (n16 2), rows rI 3 p399 us20] a w := (hst.pick [1, 2, 3, 4, 5, 6, 7, 8, 9, 10, 11, 12, 13, 14])
                exact hK393 _ _ _ (Option.some.inj h).symm ((hst.pick [1, 2, 0, 3, 4, 5, 6, 7, 8, 9, 10, 11, 12, 13]).selA [2, 0, 1] rfl)
              replace h := hp399
              clear hp399
              refine wp_test 0 hst rfl (fun b405 => ?_) (fun b405 => ?_)
              · replace h := ite_t b405 h
                obtain ⟨r403, hr403, h⟩ := bind_some h
                obtain ⟨t108, ht108, h⟩ := bind_some h
                obtain ⟨t112, ht112, h⟩ := bind_some h
                obtain ⟨t117s, ht117s, h⟩ := bind_some h
                obtain ⟨m404, hm404, h⟩ := bind_some h
                refine wp_reg mixed [v0 (rows rI 3 m404 us20)] hst (fun _ => .p rfl (op_move (.t 15 rfl)) <| .p rfl (op_move (.t 7 rfl)) <| .u [1, 0] rfl rfl (op_indexT Try.underlying26 tokV22 (.t 1 rfl) (.t 0 rfl) hr403) <| .u [1, 0] rfl rfl (op_loadT2 tokV22 (.t 0 rfl) hr403) <| .p rfl (op_move (.t 5 rfl)) <| .p rfl (op_move (.t 12 rfl)) <| .p rfl (op_move (.t 7 rfl)) <| .u [0] rfl rfl (op_indexRi Try.underlying22 tok3 (.t 1 rfl) (.t 0 rfl) hr403 ht108) <| .u [0] rfl rfl (op_loadR tok3 (.t 0 rfl) hr403 ht108) <| .p rfl (op_move (.t 16 rfl)) <| .p rfl (op_move (.t 22 rfl)) <| .u [0] rfl rfl (op_indexRi Try.underlying22 tok3 (.t 1 rfl) (.t 0 rfl) hr403 ht112) <| .u [0] rfl rfl (op_loadR tok3 (.t 0 rfl) hr403 ht112) <| .p rfl (op_move (.t 15 rfl)) <| .p rfl (op_add (.t 1 rfl) (.t 0 rfl)) <| .p rfl (op_min (.t 6 rfl) (.t 0 rfl)) <| .u [0] rfl rfl (op_indexRs Try.underlying22 tok3 (.t 12 rfl) (.t 11 rfl) hr403 ht117s) <| .e [] [0] [3] rfl rfl rfl rfl (op_storeR tok3 (.t 0 rfl) (.t 1 rfl) hr403 ht117s hm404) <| .nil _ _) (by kernel_rfl) (fun n26 a w hst => ?_)
                replace hst : St M w0 136 [(101, tv (n1 2)), (92, tv (n16 2)), (93, ti ((cpy t73 r245).length : Int)), (94, ti s377.1), (12, ti s247.1), (13, tv (usAt us20 s247.1)), (80, tv (n1 2)), (81, ti (s36.2.length : Int)), (82, ti s247.1), (11, tv (n16 2)), (10, ti s36.1), (67, ti (p33.length : Int)), (68, ti s36.1), (6, tv (n1 2)), (0, ti n_)] [own rVal 22 us20 (n1 2), own rI 3 (cpy t73 r245) (n16 2), rows rI 3 m404 us20] a w := (hst.pick [0, 20, 21, 22, 23, 24, 25, 26, 27, 28, 29, 30, 31, 32, 33])
                obtain rfl := Option.some.inj h
                exact hJp399 _ _ (hst.pick [1, 2, 3, 4, 5, 6, 7, 8, 9, 10, 11, 12, 13, 14])
              · replace h := ite_f b405 h
                refine wp_skip ?_
                obtain rfl := Option.some.inj h
                exact hJp399 _ _ ((hst.pick [3, 4, 5, 6, 7, 8, 9, 10, 11, 12, 13, 14, 15, 16]).selA [1, 2, 0] rfl)
            · replace h := ite_f b406 h
              refine wp_exit ?_
              exact hJp392 _ _ _ (ho _ (Option.some.inj h).symm) (hst.pick [6, 7, 8, 9, 10, 11, 12, 13, 14])
        · replace h := ite_f b408 h
          refine wp_exit ?_
          exact hJp328 _ _ _ (ho _ (Option.some.inj h).symm) ((hst.pick [6, 7, 8, 9]).selA [0, 1] rfl)
      · replace h := ite_f b409 h
        refine wp_exit ?_
        exact hJp210 _ _ _ (ho _ (Option.some.inj h).symm) (hst.pick [3])
    refine wp_block ?_
    refine wp_loopK _ (fun (s23 : Int × List (List Int)) a w => St M w0 136 [(39, tsl rSEdge l_), (40, ti (l_.length : Int)), (41, ti s23.1), (6, tv (n1 2)), (0, ti n_)] [rows rI 3 s23.2 us20, own rVal 22 us20 (n1 2)] a w) _ _ he24 (hst.pick [0, 1, 2, 3, 4]) ?_
    clear h
    intro s23 o a w K410 hI h ho hK410
    have hst := hI
    clear hI
    refine wp_seq_k (fun K411 hK411 => ?_)
    refine wp_reg mixed [] hst (fun _ => .p rfl (op_lss (.t 2 rfl) (.t 1 rfl)) <| .nil _ _) (by kernel_rfl) (fun n9 a w hst => ?_)
    replace hst : St M w0 136 [(42, tb (decide (s23.1 < (l_.length : Int)))), (39, tsl rSEdge l_), (40, ti (l_.length : Int)), (41, ti s23.1), (6, tv (n1 2)), (0, ti n_)] [rows rI 3 s23.2 us20, own rVal 22 us20 (n1 2)] a w := (hst.pick [0, 1, 2, 3, 4, 5])
    refine hK411 _ _ ?_
    try clear hK411 K411
    refine wp_seq_k (fun K412 hK412 => ?_)
    refine wp_test 0 hst rfl (fun b418 => ?_) (fun b418 => ?_)
    · replace h := ite_t b418 h
      refine wp_skip ?_
      refine hK412 _ _ ?_
      try clear hK412 K412
      refine wp_seq_k (fun K413 hK413 => ?_)
      refine wp_block ?_
      refine wp_seq_k (fun K414 hK414 => ?_)
      obtain ⟨t43, ht43, h⟩ := bind_some h
      refine wp_reg mixed [v1 2 (fun v0 => box (rSEdge.cs (SEdge.mk (0:Int) (0:Int) (0:Int))) v0), v1 2 (fun v0 => box (rSEdge.cs t43) v0)] hst (fun _ => .p rfl (op_index Try.underlying84 tok103 (.t 1 rfl) (.t 3 rfl) ht43) <| .p rfl (op_load tok103 (.t 0 rfl)) <| .m [] [2] rfl rfl rfl (op_alloc (R := rSEdge) (a := (SEdge.mk (0:Int) (0:Int) (0:Int))) tok103 zok103) <| .e [] [2] [3] rfl rfl rfl rfl (op_storeB (R := rSEdge) (a := t43) tok103 (.t 0 rfl) (.t 1 rfl) (Nat.le_of_ble_eq_true rfl)) <| .nil _ _) (by kernel_rfl) (fun n10 a w hst => ?_)
      replace hst : St M w0 136 [(9, tptr (rSEdge.cs t43)), (39, tsl rSEdge l_), (40, ti (l_.length : Int)), (41, ti s23.1), (6, tv (n1 2)), (0, ti n_)] [rows rI 3 s23.2 us20, own rVal 22 us20 (n1 2)] a w := (((((hst.pick [2, 4, 5, 6, 7, 8]).selA [2, 0, 1] rfl).shareB 0 rfl).add 0 rfl (fun _ _ _ h => h.2)).pick [0, 3, 4, 5, 6, 7])
      refine hK414 _ _ ?_
      try clear hK414 K414
      obtain ⟨r416, hr416, h⟩ := bind_some h
      obtain ⟨t59, ht59, h⟩ := bind_some h
      obtain ⟨t64s, ht64s, h⟩ := bind_some h
      obtain ⟨m417, hm417, h⟩ := bind_some h
      refine wp_reg mixed [v0 (rows rI 3 m417 us20)] hst (fun _ => .p rfl (op_move (.t 4 rfl)) <| .p rfl (op_field fld103_0 (.t 1 rfl)) <| .p rfl (op_loadT (u := (t43).a) tok3 (.t 0 rfl) rfl) <| .u [1, 0] rfl rfl (op_indexT Try.underlying26 tokV22 (.t 2 rfl) (.t 0 rfl) hr416) <| .u [1, 0] rfl rfl (op_loadT2 tokV22 (.t 0 rfl) hr416) <| .p rfl (op_field fld103_1 (.t 5 rfl)) <| .p rfl (op_loadT (u := (t43).b) tok3 (.t 0 rfl) rfl) <| .p rfl (op_move (.t 11 rfl)) <| .p rfl (op_field fld103_0 (.t 8 rfl)) <| .p rfl (op_loadT (u := (t43).a) tok3 (.t 0 rfl) rfl) <| .u [1, 0] rfl rfl (op_indexT Try.underlying26 tokV22 (.t 2 rfl) (.t 0 rfl) hr416) <| .u [1, 0] rfl rfl (op_loadT2 tokV22 (.t 0 rfl) hr416) <| .p rfl (op_field fld103_1 (.t 12 rfl)) <| .p rfl (op_loadT (u := (t43).b) tok3 (.t 0 rfl) rfl) <| .u [0] rfl rfl (op_indexRi Try.underlying22 tok3 (.t 2 rfl) (.t 0 rfl) hr416 ht59) <| .u [0] rfl rfl (op_loadR tok3 (.t 0 rfl) hr416 ht59) <| .p rfl (op_field fld103_2 (.t 16 rfl)) <| .p rfl (op_loadT (u := (t43).n) tok3 (.t 0 rfl) rfl) <| .p rfl (op_min (.t 2 rfl) (.t 0 rfl)) <| .u [0] rfl rfl (op_indexRs Try.underlying22 tok3 (.t 14 rfl) (.t 12 rfl) hr416 ht64s) <| .e [] [0] [2] rfl rfl rfl rfl (op_storeR tok3 (.t 0 rfl) (.t 1 rfl) hr416 ht64s hm417) <| .nil _ _) (by kernel_rfl) (fun n11 a w hst => ?_)
      replace hst : St M w0 136 [(45, tv (n1 2)), (52, tv (n1 2)), (39, tsl rSEdge l_), (40, ti (l_.length : Int)), (41, ti s23.1), (6, tv (n1 2)), (0, ti n_)] [own rVal 22 us20 (n1 2), rows rI 3 m417 us20] a w := (hst.pick [0, 7, 21, 22, 23, 24, 25])
      refine hK413 _ _ ?_
      try clear hK413 K413
      refine wp_reg mixed [] hst (fun _ => .p rfl (op_add (.t 4 rfl) .k) <| .p rfl (op_move (.t 0 rfl)) <| .nil _ _) (by kernel_rfl) (fun n12 a w hst => ?_)
      replace hst : St M w0 136 [(41, ti (IntKind.i64.wrap (s23.1 + (1:Int)))), (45, tv (n1 2)), (52, tv (n1 2)), (39, tsl rSEdge l_), (40, ti (l_.length : Int)), (6, tv (n1 2)), (0, ti n_)] [own rVal 22 us20 (n1 2), rows rI 3 m417 us20] a w := (hst.pick [1, 2, 3, 4, 5, 6, 7])
      exact hK410 _ _ _ (Option.some.inj h).symm ((hst.pick [3, 4, 0, 5, 6]).selA [1, 0] rfl)
    · replace h := ite_f b418 h
      refine wp_exit ?_
      exact hJp33 _ _ _ (ho _ (Option.some.inj h).symm) (hst.pick [4, 5])
  refine wp_block ?_
  refine wp_loopK _ (fun (s7 : Int × List (List Int)) a w => ∃ us8 : List Value, St M w0 136 [(21, ti (t19.length : Int)), (22, ti s7.1), (6, tv (n1 2)), (0, ti n_), (1, tsl rSEdge l_)] [rows rI 3 s7.2 us8, own rVal 22 us8 (n1 2)] a w) _ _ he9 ⟨(List.replicate ((IntKind.i64.wrap (n_ + (1:Int)))).toNat nilV), hst.pick [1, 2, 4, 5, 6]⟩ ?_
  clear h
  intro s7 o a w K419 hI h ho hK419
  obtain ⟨us8, hst⟩ := hI
  refine wp_seq_k (fun K420 hK420 => ?_)
  refine wp_reg mixed [] hst (fun _ => .p rfl (op_lss (.t 1 rfl) (.t 0 rfl)) <| .nil _ _) (by kernel_rfl) (fun n3 a w hst => ?_)
  replace hst : St M w0 136 [(23, tb (decide (s7.1 < (t19.length : Int)))), (21, ti (t19.length : Int)), (22, ti s7.1), (6, tv (n1 2)), (0, ti n_), (1, tsl rSEdge l_)] [rows rI 3 s7.2 us8, own rVal 22 us8 (n1 2)] a w := (hst.pick [0, 1, 2, 3, 4, 5])
  refine hK420 _ _ ?_
  try clear hK420 K420
  refine wp_seq_k (fun K421 hK421 => ?_)
  refine wp_test 0 hst rfl (fun b428 => ?_) (fun b428 => ?_)
  · replace h := ite_t b428 h
    refine wp_skip ?_
    refine hK421 _ _ ?_
    try clear hK421 K421
    refine wp_seq_k (fun K422 hK422 => ?_)
    refine wp_block ?_
    refine wp_seq_k (fun K423 hK423 => ?_)
    refine wp_reg mixed [] hst (fun _ => .p rfl (op_move (.t 2 rfl)) <| .p rfl (op_assign (.t 0 rfl)) <| .nil _ _) (by kernel_rfl) (fun n4 a w hst => ?_)
    replace hst : St M w0 136 [(7, ti s7.1), (21, ti (t19.length : Int)), (22, ti s7.1), (6, tv (n1 2)), (0, ti n_), (1, tsl rSEdge l_)] [rows rI 3 s7.2 us8, own rVal 22 us8 (n1 2)] a w := (hst.pick [1, 3, 4, 5, 6, 7])
    refine hK423 _ _ ?_
    try clear hK423 K423
    refine wp_seq_k (fun K424 hK424 => ?_)
    obtain ⟨t30, ht30, h⟩ := bind_some h
    obtain ⟨w31s, hw31s, h⟩ := bind_some h
    refine wp_reg mixed [v1 5 (fun v0 => own rI 3 t30 v0), v1 5 (fun v0 => own rVal 22 (us8.set (s7.1).toNat v0) (n1 2))] hst (fun _ => .p rfl (op_move (.t 3 rfl)) <| .p rfl (op_move (.t 1 rfl)) <| .p rfl (op_buildSl (R := rI) (us := [(1099511627776:Int)]) Try.underlying22 tok3 (.cons .k <| .nil _) rfl (Nat.le_of_ble_eq_true rfl)) <| .p rfl (op_move (.t 7 rfl)) <| .p rfl (op_add (.t 0 rfl) .k) <| .m [] [2] rfl rfl rfl (op_callF call83 (Repeat_ok ht30) (.cons (.of (.t 2 rfl)) <| .cons (.of (.t 0 rfl)) <| .nil)) <| .u [1, 0] rfl rfl (op_indexTs Try.underlying26 tokV22 (.t 5 rfl) (.t 4 rfl) hw31s) <| .e [0, 2] [1] [3] rfl rfl rfl rfl (op_putT (e1 := 22) (e2 := 3) tokV22 (.t 0 rfl) (.t 1 rfl) hw31s) <| .nil _ _) (by kernel_rfl) (fun n5 a w hst => ?_)
    replace hst : St M w0 136 [(25, tv (n1 2)), (30, tv (n5 5)), (7, ti s7.1), (21, ti (t19.length : Int)), (22, ti s7.1), (6, tv (n1 2)), (0, ti n_), (1, tsl rSEdge l_)] [rows rI 3 w31s (us8.set (s7.1).toNat (n5 5)), own rVal 22 (us8.set (s7.1).toNat (n5 5)) (n1 2)] a w := (((hst.pick [0, 5, 7, 8, 9, 10, 11, 12]).selA [1, 0, 2] rfl).put (s7.1) hw31s)
    refine hK424 _ _ ?_
    try clear hK424 K424
    obtain ⟨r426, hr426, h⟩ := bind_some h
    obtain ⟨t37s, ht37s, h⟩ := bind_some h
    obtain ⟨m427, hm427, h⟩ := bind_some h
    refine wp_reg mixed [v0 (rows rI 3 m427 (us8.set (s7.1).toNat (n5 5)))] hst (fun _ => .p rfl (op_move (.t 5 rfl)) <| .p rfl (op_move (.t 3 rfl)) <| .u [1, 0] rfl rfl (op_indexT Try.underlying26 tokV22 (.t 1 rfl) (.t 0 rfl) hr426) <| .u [1, 0] rfl rfl (op_loadT2 tokV22 (.t 0 rfl) hr426) <| .p rfl (op_move (.t 6 rfl)) <| .u [0] rfl rfl (op_indexRs Try.underlying22 tok3 (.t 1 rfl) (.t 0 rfl) hr426 ht37s) <| .e [] [0] [2] rfl rfl rfl rfl (op_storeR tok3 (.t 0 rfl) .k hr426 ht37s hm427) <| .nil _ _) (by kernel_rfl) (fun n6 a w hst => ?_)
    replace hst : St M w0 136 [(32, tv (n1 2)), (25, tv (n1 2)), (21, ti (t19.length : Int)), (22, ti s7.1), (6, tv (n1 2)), (0, ti n_), (1, tsl rSEdge l_)] [own rVal 22 (us8.set (s7.1).toNat (n5 5)) (n1 2), rows rI 3 m427 (us8.set (s7.1).toNat (n5 5))] a w := (hst.pick [0, 6, 9, 10, 11, 12, 13])
    refine hK422 _ _ ?_
    try clear hK422 K422
    refine wp_reg mixed [] hst (fun _ => .p rfl (op_add (.t 3 rfl) .k) <| .p rfl (op_move (.t 0 rfl)) <| .nil _ _) (by kernel_rfl) (fun n7 a w hst => ?_)
    replace hst : St M w0 136 [(22, ti (IntKind.i64.wrap (s7.1 + (1:Int)))), (32, tv (n1 2)), (25, tv (n1 2)), (21, ti (t19.length : Int)), (6, tv (n1 2)), (0, ti n_), (1, tsl rSEdge l_)] [own rVal 22 (us8.set (s7.1).toNat (n5 5)) (n1 2), rows rI 3 m427 (us8.set (s7.1).toNat (n5 5))] a w := (hst.pick [1, 2, 3, 4, 5, 6, 7])
    exact hK419 _ _ _ (Option.some.inj h).symm ⟨(us8.set (s7.1).toNat (n5 5)), (hst.pick [3, 0, 4, 5, 6]).selA [1, 0] rfl⟩
  · replace h := ite_f b428 h
    refine wp_exit ?_
    exact hJp19 _ us8 _ _ (ho _ (Option.some.inj h).symm) (hst.pick [3, 4, 5])

/- diorama/bounds.Close -/
noncomputable def fClose (n_ : Int) (l_ : (List SDiff)) : Option ((List (List Int)) × Int) := (fedges n_ l_).bind fun t13 => (if (t13.2 != (0:Int)) = true then (some (([] : List (List Int)), t13.2)) else (fclosed n_ t13.1).bind fun t22 => (if (!t22.2) = true then (some (([] : List (List Int)), (14:Int))) else (some (t22.1, (0:Int)))))
set_option maxRecDepth 100000 in
set_option maxHeartbeats 4000000 in
theorem Close_ok {n_ : Int} {l_ : (List SDiff)} {r : (List (List Int)) × Int} (h : fClose n_ l_ = some r) : FnOk Try.prog 31 [ti n_, tsl rSDiff l_] [] (fun _ => []) (fun _ => ttup [tsl (rSl rI) r.1, ti r.2]) := by
  unfold fClose at h
  refine FnOk.enter Try.func31 rfl Try.ntmps31 (Nat.le_of_ble_eq_true rfl) (fun M0 M w0 a hpl hst => ?_)
  replace hst : St M w0 28 [(0, ti n_), (1, tsl rSDiff l_)] [] a w0 := hst
  refine wp_seq_k (fun K1 hK1 => ?_)
  refine wp_reg mixed [] hst (fun _ => .p rfl (op_assign (.nilsl (R := (rSl rI)))) <| .p rfl (op_assign .k) <| .nil _ _) (by kernel_rfl) (fun n0 a w hst => ?_)
  replace hst : St M w0 28 [(0, ti n_), (1, tsl rSDiff l_)] [] a w := (hst.pick [2, 3])
  refine hK1 _ _ ?_
  try clear hK1 K1
  refine wp_seq_k (fun K2 hK2 => ?_)
  obtain ⟨t13, ht13, h⟩ := bind_some h
  refine wp_reg mixed [] hst (fun _ => .p rfl (op_move (.t 0 rfl)) <| .p rfl (op_move (.t 2 rfl)) <| .p rfl (op_callF call60 ((edges_ok ht13).ro ro_tup0) (.cons (.of (.t 1 rfl)) <| .cons (.of (.t 0 rfl)) <| .nil)) <| .p rfl (op_move (.t 0 rfl)) <| .p rfl (op_extract (.t 0 rfl) rfl) <| .p rfl (op_extract (.t 1 rfl) rfl) <| .p rfl (op_assign (.t 1 rfl)) <| .p rfl (op_assign (.t 1 rfl)) <| .nil _ _) (by kernel_rfl) (fun n1 a w hst => ?_)
  replace hst : St M w0 28 [(6, tsl rSEdge t13.1), (7, ti t13.2), (0, ti n_)] [] a w := (hst.pick [6, 7, 8])
  refine hK2 _ _ ?_
  try clear hK2 K2
  refine wp_seq_k (fun K3 hK3 => ?_)
  refine wp_seq_k (fun K4 hK4 => ?_)
  refine wp_reg mixed [] hst (fun _ => .p rfl (op_move (.t 1 rfl)) <| .p rfl (op_neq (.t 0 rfl) .k) <| .nil _ _) (by kernel_rfl) (fun n2 a w hst => ?_)
  replace hst : St M w0 28 [(17, tb (t13.2 != (0:Int))), (6, tsl rSEdge t13.1), (7, ti t13.2), (0, ti n_)] [] a w := (hst.pick [1, 2, 3, 4])
  refine hK4 _ _ ?_
  try clear hK4 K4
  refine wp_test 0 hst rfl (fun b12 => ?_) (fun b12 => ?_)
  · replace h := ite_t b12 h
    refine wp_seq_k (fun K5 hK5 => ?_)
    refine wp_reg mixed [] hst (fun _ => .p rfl (op_move (.t 2 rfl)) <| .p rfl (op_assign (.nilsl (R := (rSl rI)))) <| .p rfl (op_assign (.t 1 rfl)) <| .nil _ _) (by kernel_rfl) (fun n3 a w hst => ?_)
    replace hst : St M w0 28 [(4, tsl (rSl rI) ([] : List (List Int))), (5, ti t13.2)] [] a w := (hst.pick [1, 2])
    refine hK5 _ _ ?_
    try clear hK5 K5
    refine wp_ret ?_
    obtain rfl := Option.some.inj h
    exact ret_st undef [] hpl hst rfl (.tmp (.t 0 rfl) (.tmp (.t 1 rfl) .nil)) rfl rfl rfl
  · replace h := ite_f b12 h
    refine wp_skip ?_
    refine hK3 _ _ ?_
    try clear hK3 K3
    refine wp_seq_k (fun K6 hK6 => ?_)
    obtain ⟨t22, ht22, h⟩ := bind_some h
    refine wp_reg mixed [] hst (fun _ => .p rfl (op_move (.t 3 rfl)) <| .p rfl (op_move (.t 2 rfl)) <| .p rfl (op_callF call61 (closed_ok ht22) (.cons (.of (.t 1 rfl)) <| .cons (.of (.t 0 rfl)) <| .nil)) <| .p rfl (op_move (.t 0 rfl)) <| .p rfl (op_extract (.t 0 rfl) rfl) <| .p rfl (op_extract (.t 1 rfl) rfl) <| .p rfl (op_assign (.t 1 rfl)) <| .p rfl (op_assign (.t 1 rfl)) <| .nil _ _) (by kernel_rfl) (fun n4 a w hst => ?_)
    replace hst : St M w0 28 [(8, tsl (rSl rI) t22.1), (9, tb t22.2)] [] a w := (hst.pick [6, 7])
    refine hK6 _ _ ?_
    try clear hK6 K6
    refine wp_seq_k (fun K7 hK7 => ?_)
    refine wp_seq_k (fun K8 hK8 => ?_)
    refine wp_reg mixed [] hst (fun _ => .p rfl (op_move (.t 1 rfl)) <| .p rfl (op_not (.t 0 rfl)) <| .nil _ _) (by kernel_rfl) (fun n5 a w hst => ?_)
    replace hst : St M w0 28 [(26, tb (!t22.2)), (8, tsl (rSl rI) t22.1)] [] a w := (hst.pick [1, 2])
    refine hK8 _ _ ?_
    try clear hK8 K8
    refine wp_test 0 hst rfl (fun b11 => ?_) (fun b11 => ?_)
    · replace h := ite_t b11 h
      refine wp_seq_k (fun K9 hK9 => ?_)
      refine wp_reg mixed [] hst (fun _ => .p rfl (op_assign (.nilsl (R := (rSl rI)))) <| .p rfl (op_assign .k) <| .nil _ _) (by kernel_rfl) (fun n6 a w hst => ?_)
      replace hst : St M w0 28 [(4, tsl (rSl rI) ([] : List (List Int))), (5, ti (14:Int))] [] a w := (hst.pick [0, 1])
      refine hK9 _ _ ?_
      try clear hK9 K9
      refine wp_ret ?_
      obtain rfl := Option.some.inj h
      exact ret_st undef [] hpl hst rfl (.tmp (.t 0 rfl) (.tmp (.t 1 rfl) .nil)) rfl rfl rfl
    · replace h := ite_f b11 h
      refine wp_skip ?_
      refine hK7 _ _ ?_
      try clear hK7 K7
      refine wp_seq_k (fun K10 hK10 => ?_)
      refine wp_reg mixed [] hst (fun _ => .p rfl (op_move (.t 1 rfl)) <| .p rfl (op_assign (.t 0 rfl)) <| .p rfl (op_assign .k) <| .nil _ _) (by kernel_rfl) (fun n7 a w hst => ?_)
      replace hst : St M w0 28 [(4, tsl (rSl rI) t22.1), (5, ti (0:Int))] [] a w := (hst.pick [1, 2])
      refine hK10 _ _ ?_
      try clear hK10 K10
      refine wp_ret ?_
      obtain rfl := Option.some.inj h
      exact ret_st undef [] hpl hst rfl (.tmp (.t 0 rfl) (.tmp (.t 1 rfl) .nil)) rfl rfl rfl


end Go.Proofs.Ytjniiejgccdhiaa
