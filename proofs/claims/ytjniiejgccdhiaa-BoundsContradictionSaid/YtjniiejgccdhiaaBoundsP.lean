/- Package bounds: both searches for the smallest contradiction give the same. BoundsCloses holds of the Lean functions. No condition. -/
import Derived.Test.YtjniiejgccdhiaaBoundsO
namespace Go.Proofs.Ytjniiejgccdhiaa
open Go.Sim

theorem cycleS_empty {E : List Ed} {many first : Nat} : (cycleS E many first).isEmpty = !goesB (lay (E.getD first ⟨0, 0, 0⟩).a (E.drop (first + 1)) (many - 1)) (E.getD first ⟨0, 0, 0⟩).w 0 (E.getD first ⟨0, 0, 0⟩).b := by
  unfold cycleS
  split
  · next h =>
    rw [h]
    have hne := (outS_len (E := E) (Ly := lay (E.getD first ⟨0, 0, 0⟩).a (E.drop (first + 1))) (first := first) (many - 1) ((E.getD first ⟨0, 0, 0⟩).b, [(first : Int)], (E.getD first ⟨0, 0, 0⟩).w)).1
    cases h : (outS E (lay (E.getD first ⟨0, 0, 0⟩).a (E.drop (first + 1))) first (many - 1) ((E.getD first ⟨0, 0, 0⟩).b, [(first : Int)], (E.getD first ⟨0, 0, 0⟩).w)).2.1 with
    | nil => rw [h] at hne; simp at hne
    | cons _ _ => rfl
  · next h => rw [Bool.not_eq_true] at h; rw [h]; rfl

theorem cyc_inner {m : Nat} {l : List SDiff} (hv : Valid m l) {many : Nat} (h2 : 2 ≤ many) (hm : many ≤ m) : ∀ (k i : Nat), i + k = l.length →
    tailrec (fun (s46 : Int) => ((if (decide (s46 < ((l.map (edS m)).length : Int))) = true then (fcycle ((m : Int) - 1) (l.map (edS m)) s46 (many : Int)).bind fun t35 => (if (!t35.isEmpty) = true then (some (.inr (.inr (t35, (0:Int))))) else (some (.inl (IntKind.i64.wrap (s46 + (1:Int)))))) else (some (.inr (.inl ())))) : Option ((Int) ⊕ ((Unit) ⊕ ((List Int) × Int))))) (i : Int) =
      some (match scanS (cycleS (l.map (edN m)) many) k i with | some p => .inr (p, 0) | none => .inl ()) := by
  have hlen := hv.len
  intro k
  induction k with
  | zero =>
    intro i hi
    rw [tailrec_eq]
    rw [if_neg (by simp; omega)]
    rfl
  | succ k ih =>
    intro i hi
    rw [tailrec_eq]
    rw [if_pos (by simp; omega), cycle_is hv (by omega) h2 hm]
    simp only [Option.bind_some]
    unfold scanS
    cases h : (cycleS (l.map (edN m)) many i).isEmpty with
    | true =>
      simp only [Bool.not_true, Bool.false_eq_true, if_false, if_true]
      rw [w64_succ (n := l.length) (by omega) (by omega)]
      exact ih (i + 1) (by omega)
    | false => simp only [Bool.not_false, if_true, Bool.false_eq_true, if_false]

theorem cyc_is (n : Int) (l : List SDiff) : fCycle n l = some (cycS n l) := by
  unfold fCycle cycS
  rw [edges_is]
  simp only [Option.bind_some]
  by_cases h : validS n l = 0
  · obtain ⟨m, rfl, hv⟩ := valid_of h
    have hm11 := hv.m11
    have hm1 := hv.m1
    rw [if_pos h, if_neg (by simp [h])]
    have hn : ¬ (validS ((m : Int) - 1) l ≠ 0) := fun g => g h
    rw [if_neg hn, show ((m : Int) - 1 + 1).toNat = m by omega, show ((m : Int) - 1).toNat = m - 1 by omega, m_wrap hm11]
    have key : ∀ (k many : Nat), 2 ≤ many → many + k = m + 1 → tailrec (fun (s8 : Int) => ((if (decide (s8 ≤ (m : Int))) = true then (tailrec (fun (s46 : Int) => ((if (decide (s46 < ((l.map (edS m)).length : Int))) = true then (fcycle ((m : Int) - 1) (l.map (edS m)) s46 s8).bind fun t35 => (if (!t35.isEmpty) = true then (some (.inr (.inr (t35, (0:Int))))) else (some (.inl (IntKind.i64.wrap (s46 + (1:Int)))))) else (some (.inr (.inl ())))) : Option ((Int) ⊕ ((Unit) ⊕ ((List Int) × Int))))) (0:Int)).bind fun (e47 : (Unit) ⊕ ((List Int) × Int)) => (match e47 with | .inl p57 => (some (.inl (IntKind.i64.wrap (s8 + (1:Int))))) | .inr p58 => (some (.inr (.inr (p58.1, p58.2))))) else (some (.inr (.inl ())))) : Option ((Int) ⊕ ((Unit) ⊕ ((List Int) × Int))))) (many : Int) =
        some (match scan2 (cycleS (l.map (edN m))) l.length k many with | some p => .inr (p, 0) | none => .inl ()) := by
      intro k
      induction k with
      | zero =>
        intro many h2 hk
        rw [tailrec_eq]
        rw [if_neg (by simp; omega)]
        rfl
      | succ k ih =>
        intro many h2 hk
        rw [tailrec_eq]
        have hin := cyc_inner hv h2 (show many ≤ m by omega) l.length 0 (by omega)
        rw [show ((0 : Nat) : Int) = 0 from rfl] at hin
        rw [if_pos (by simp; omega), hin]
        simp only [Option.bind_some]
        unfold scan2
        cases hs : scanS (cycleS (l.map (edN m)) many) l.length 0 with
        | some p => rfl
        | none =>
          simp only
          rw [w64_succ (n := m + 1) (k := many) (by omega) (by omega)]
          exact ih (many + 1) (by omega) (by omega)
    have h2 := key (m - 1) 2 (by omega) (by omega)
    rw [show ((2 : Nat) : Int) = 2 from rfl] at h2
    refine (congrArg (Option.bind · _) h2).trans ?_
    simp only [Option.bind_some]
    cases scan2 (cycleS (l.map (edN m))) l.length (m - 1) 2 <;> rfl
  · rw [if_neg h, if_pos h]
    simp only
    rw [if_pos (by simpa using h)]

noncomputable def cycRBody (m : Nat) (l : List SDiff) (s8 s196 : Int) : Option ((Int) ⊕ ((Unit) ⊕ (Int × List Int))) :=
  (idx l s196).bind fun t40 => (frow ((m : Int) - 1) (t40).A).bind fun t43 => (fback ((m : Int) - 1) l s196 t43 (IntKind.i64.wrap (s8 - (1:Int)))).bind fun t46 => (idx l s196).bind fun t50 => (frow ((m : Int) - 1) (t50).B).bind fun t53 => (idx l s196).bind fun t56 => (idx t46 (IntKind.i64.wrap (s8 - (1:Int)))).bind fun t62 => (idx t62 t53).bind fun t65 => (opt ((decide (t65 ≥ (1099511627776:Int))) == false) (idx t46 (IntKind.i64.wrap (s8 - (1:Int)))) default).bind fun t73 => (opt ((decide (t65 ≥ (1099511627776:Int))) == false) (idx t73 t53) default).bind fun t76 => (if ((decide (t65 ≥ (1099511627776:Int))) || (decide ((IntKind.i64.wrap ((t56).N + t76)) ≥ (0:Int)))) = true then (some (.inl (IntKind.i64.wrap (s196 + (1:Int))))) else (tailrec (fun (s297 : Int × Int × Int × List Int) => ((if (decide (s297.1 ≥ (0:Int))) = true then (tailrec (fun (s339 : Int × Int × Int × List Int) => ((if (decide (s339.1 < (l.length : Int))) = true then (idx l s339.1).bind fun t100 => (frow ((m : Int) - 1) (t100).B).bind fun t103 => (idx l s339.1).bind fun t107 => (frow ((m : Int) - 1) (t107).A).bind fun t110 => (opt ((t110 == s339.2.2.1) == true) (idx t46 s297.1) default).bind fun t116 => (opt ((t110 == s339.2.2.1) == true) (idx t116 t103) default).bind fun t119 => (opt (((t110 == s339.2.2.1) && (decide (t119 < (1099511627776:Int)))) == true) (idx l s339.1) default).bind fun t127 => (opt (((t110 == s339.2.2.1) && (decide (t119 < (1099511627776:Int)))) == true) (idx t46 s297.1) default).bind fun t133 => (opt (((t110 == s339.2.2.1) && (decide (t119 < (1099511627776:Int)))) == true) (idx t133 t103) default).bind fun t136 => (if (((t110 == s339.2.2.1) && (decide (t119 < (1099511627776:Int)))) && (decide ((IntKind.i64.wrap ((IntKind.i64.wrap (s339.2.1 + (t127).N)) + t136)) < (0:Int)))) = true then (rm (s339.2.2.2.length + [s339.1].length)).bind fun _ => (idx l s339.1).bind fun t148 => (some (.inr (t103, (IntKind.i64.wrap (s339.2.1 + (t148).N)), (s339.2.2.2 ++ [s339.1])))) else (some (.inl ((IntKind.i64.wrap (s339.1 + (1:Int))), s339.2.1, s339.2.2.1, s339.2.2.2)))) else (some (.inr (s339.2.2.1, s339.2.1, s339.2.2.2)))) : Option ((Int × Int × Int × List Int) ⊕ ((Int × Int × List Int))))) ((IntKind.i64.wrap (s196 + (1:Int))), s297.2.1, s297.2.2.1, s297.2.2.2)).bind fun (p352 : (Int × Int × List Int)) => (some (.inl ((IntKind.i64.wrap (s297.1 - (1:Int))), p352.2.1, p352.1, p352.2.2))) else (some (.inr s297.2.2.2))) : Option ((Int × Int × Int × List Int) ⊕ ((List Int))))) ((IntKind.i64.wrap (s8 - (2:Int))), (t56).N, t53, [s196])).bind fun (p331 : (List Int)) => (some (.inr (.inr ((0:Int), p331)))))

theorem cycR_step {m : Nat} {l : List SDiff} (hv : Valid m l) {first many : Nat} (hf : first < l.length) (h2 : 2 ≤ many) (hm : many ≤ m) :
    cycRBody m l (many : Int) (first : Int) = some (if (cycleS (l.map (edN m)) many first).isEmpty = true then .inl ((first + 1 : Nat) : Int) else .inr (.inr (0, cycleS (l.map (edN m)) many first))) := by
  have hm11 := hv.m11
  have hlen := hv.len
  have hin : ∀ d ∈ l, (-1 ≤ d.A ∧ d.A < (m : Int) - 1 ∧ -1 ≤ d.B ∧ d.B < (m : Int) - 1 ∧ -2097152 ≤ d.N ∧ d.N ≤ 2097152) ∧ rowN m d.A < m ∧ rowN m d.B < m := fun d hd => by
    have h := eds_w hv (edN m d) (List.mem_map_of_mem hd)
    have g := hv.ok d hd
    exact ⟨⟨g.1, g.2.1, g.2.2.1, g.2.2.2.1, g.2.2.2.2.2⟩, h.1, h.2.1⟩
  rw [cycleS_empty]
  unfold cycRBody cycleS
  rw [map_getD hf, drop_map]
  obtain ⟨⟨a1, a2, b1, b2, n1, n2⟩, ha, hb⟩ := hin _ (List.getElem_mem hf)
  rw [idx_lt hf]
  simp only [Option.bind_some]
  rw [frow_is a1 a2, frow_is b1 b2]
  simp only [Option.bind_some]
  rw [show IntKind.i64.wrap ((many : Int) - 1) = ((many - 1 : Nat) : Int) by rw [w64 (by omega) (by omega)]; omega]
  rw [back_is hv hf ha (show many - 1 ≤ m by omega)]
  simp only [Option.bind_some]
  rw [show (edN m l[first]).a = rowN m l[first].A from rfl, show (edN m l[first]).b = rowN m l[first].B from rfl, show (edN m l[first]).w = l[first].N from rfl]
  generalize lay (rowN m l[first].A) ((l.drop (first + 1)).map (edN m)) = Ly
  have row : ∀ q, q ≤ many - 1 → idx (rowL (many - 1 + 1) fun q => rowL m (Ly q)) (q : Int) = some (rowL m (Ly q)) := fun q hq => by rw [rowL_idx (by omega)]
  rw [row _ (Nat.le_refl _)]
  simp only [Option.bind_some]
  rw [rowL_idx hb]
  simp only [Option.bind_some]
  by_cases hL : Ly (many - 1) (rowN m l[first].B) < INF
  · have hL' : decide (Ly (many - 1) (rowN m l[first].B) ≥ (1099511627776:Int)) = false := by simpa using hL
    rw [hL']
    simp only [BEq.rfl, opt_true, Option.bind_some, Bool.false_or]
    rw [rowL_idx hb]
    simp only [Option.bind_some]
    have hg : goesB (Ly (many - 1)) l[first].N 0 (rowN m l[first].B) = !decide (IntKind.i64.wrap (l[first].N + Ly (many - 1) (rowN m l[first].B)) ≥ 0) := by
      unfold goesB
      rw [show l[first].N + 0 = l[first].N by omega, w64 (n := l[first].N) (by omega) (by omega), show decide (Ly (many - 1) (rowN m l[first].B) < INF) = true by simpa using hL, Bool.true_and, ← decide_not]
      congr 1
      rw [Int.not_le]
    rw [hg]
    by_cases hc : decide (IntKind.i64.wrap (l[first].N + Ly (many - 1) (rowN m l[first].B)) ≥ 0) = true
    · rw [hc]
      simp only [if_true, Bool.not_true, Bool.not_false]
      rw [w64_succ hf (by omega)]
    · have hc' : decide (IntKind.i64.wrap (l[first].N + Ly (many - 1) (rowN m l[first].B)) ≥ 0) = false := by simpa using hc
      rw [hc']
      simp only [Bool.false_eq_true, if_false, Bool.not_true, Bool.not_false, if_true]
      have inn : ∀ (k0 : Nat), k0 ≤ many - 1 → ∀ (k i : Nat) (st : Wk), i + k = l.length → st.2.1.length ≤ 100 →
          tailrec (fun (s339 : Int × Int × Int × List Int) => ((if (decide (s339.1 < (l.length : Int))) = true then (idx l s339.1).bind fun t100 => (frow ((m : Int) - 1) (t100).B).bind fun t103 => (idx l s339.1).bind fun t107 => (frow ((m : Int) - 1) (t107).A).bind fun t110 => (opt ((t110 == s339.2.2.1) == true) (idx (rowL (many - 1 + 1) fun q => rowL m (Ly q)) (k0 : Int)) default).bind fun t116 => (opt ((t110 == s339.2.2.1) == true) (idx t116 t103) default).bind fun t119 => (opt (((t110 == s339.2.2.1) && (decide (t119 < (1099511627776:Int)))) == true) (idx l s339.1) default).bind fun t127 => (opt (((t110 == s339.2.2.1) && (decide (t119 < (1099511627776:Int)))) == true) (idx (rowL (many - 1 + 1) fun q => rowL m (Ly q)) (k0 : Int)) default).bind fun t133 => (opt (((t110 == s339.2.2.1) && (decide (t119 < (1099511627776:Int)))) == true) (idx t133 t103) default).bind fun t136 => (if (((t110 == s339.2.2.1) && (decide (t119 < (1099511627776:Int)))) && (decide ((IntKind.i64.wrap ((IntKind.i64.wrap (s339.2.1 + (t127).N)) + t136)) < (0:Int)))) = true then (rm (s339.2.2.2.length + [s339.1].length)).bind fun _ => (idx l s339.1).bind fun t148 => (some (.inr (t103, (IntKind.i64.wrap (s339.2.1 + (t148).N)), (s339.2.2.2 ++ [s339.1])))) else (some (.inl ((IntKind.i64.wrap (s339.1 + (1:Int))), s339.2.1, s339.2.2.1, s339.2.2.2)))) else (some (.inr (s339.2.2.1, s339.2.1, s339.2.2.2)))) : Option ((Int × Int × Int × List Int) ⊕ ((Int × Int × List Int))))) ((i : Int), st.2.2, (st.1 : Int), st.2.1) =
          some (((inS (l.map (edN m)) (Ly k0) k i st).1 : Int), (inS (l.map (edN m)) (Ly k0) k i st).2.2, (inS (l.map (edN m)) (Ly k0) k i st).2.1) := by
        intro k0 hk0
        rw [row k0 hk0]
        intro k
        induction k with
        | zero =>
          intro i st hi _
          rw [tailrec_eq]
          simp only
          rw [if_neg (by simp; omega)]
          rfl
        | succ k ih =>
          intro i st hi hst
          have hil : i < l.length := by omega
          obtain ⟨⟨a1, a2, b1, b2, n1, n2⟩, ha, hb⟩ := hin _ (List.getElem_mem hil)
          rw [tailrec_eq]
          simp only
          rw [if_pos (by simpa using hil), idx_lt hil]
          simp only [Option.bind_some]
          rw [frow_is a1 a2, frow_is b1 b2]
          simp only [Option.bind_some]
          unfold inS
          rw [map_getD hil]
          have ea : (((rowN m l[i].A : Nat) : Int) == (st.1 : Int)) = ((edN m l[i]).a == st.1) := by
            rw [Bool.eq_iff_iff]; simp only [edN, beq_iff_eq]; omega
          rw [ea]
          rw [show (edN m l[i]).b = rowN m l[i].B from rfl, show (edN m l[i]).w = l[i].N from rfl]
          cases hc : (edN m l[i]).a == st.1 with
          | true =>
            simp only [BEq.rfl, opt_true, Option.bind_some, Bool.true_and]
            rw [rowL_idx hb]
            simp only [Option.bind_some]
            unfold goesB
            cases hd : decide (Ly k0 (rowN m l[i].B) < INF) with
            | true =>
              simp only [BEq.rfl, opt_true, Option.bind_some, Bool.true_and]
              rw [rowL_idx hb]
              simp only [Option.bind_some]
              by_cases hg : decide (IntKind.i64.wrap (IntKind.i64.wrap (st.2.2 + l[i].N) + Ly k0 (rowN m l[i].B)) < 0) = true
              · rw [if_pos hg, if_pos hg, rm_le (by simp; omega)]
                rfl
              · rw [if_neg hg, if_neg hg]
                simp only
                rw [w64_succ hil (by omega)]
                exact ih (i + 1) st (by omega) hst
            | false =>
              simp only [show (false == true) = false from rfl, opt_false, Option.bind_some, Bool.false_and, Bool.false_eq_true, if_false]
              rw [w64_succ hil (by omega)]
              exact ih (i + 1) st (by omega) hst
          | false =>
            simp only [show (false == true) = false from rfl, opt_false, Option.bind_some, Bool.false_and, Bool.false_eq_true, if_false]
            rw [w64_succ hil (by omega)]
            exact ih (i + 1) st (by omega) hst
      have out : ∀ (k : Nat) (st : Wk), k < many → st.2.1.length + k ≤ 100 →
          tailrec (fun (s297 : Int × Int × Int × List Int) => ((if (decide (s297.1 ≥ (0:Int))) = true then (tailrec (fun (s339 : Int × Int × Int × List Int) => ((if (decide (s339.1 < (l.length : Int))) = true then (idx l s339.1).bind fun t100 => (frow ((m : Int) - 1) (t100).B).bind fun t103 => (idx l s339.1).bind fun t107 => (frow ((m : Int) - 1) (t107).A).bind fun t110 => (opt ((t110 == s339.2.2.1) == true) (idx (rowL (many - 1 + 1) fun q => rowL m (Ly q)) s297.1) default).bind fun t116 => (opt ((t110 == s339.2.2.1) == true) (idx t116 t103) default).bind fun t119 => (opt (((t110 == s339.2.2.1) && (decide (t119 < (1099511627776:Int)))) == true) (idx l s339.1) default).bind fun t127 => (opt (((t110 == s339.2.2.1) && (decide (t119 < (1099511627776:Int)))) == true) (idx (rowL (many - 1 + 1) fun q => rowL m (Ly q)) s297.1) default).bind fun t133 => (opt (((t110 == s339.2.2.1) && (decide (t119 < (1099511627776:Int)))) == true) (idx t133 t103) default).bind fun t136 => (if (((t110 == s339.2.2.1) && (decide (t119 < (1099511627776:Int)))) && (decide ((IntKind.i64.wrap ((IntKind.i64.wrap (s339.2.1 + (t127).N)) + t136)) < (0:Int)))) = true then (rm (s339.2.2.2.length + [s339.1].length)).bind fun _ => (idx l s339.1).bind fun t148 => (some (.inr (t103, (IntKind.i64.wrap (s339.2.1 + (t148).N)), (s339.2.2.2 ++ [s339.1])))) else (some (.inl ((IntKind.i64.wrap (s339.1 + (1:Int))), s339.2.1, s339.2.2.1, s339.2.2.2)))) else (some (.inr (s339.2.2.1, s339.2.1, s339.2.2.2)))) : Option ((Int × Int × Int × List Int) ⊕ ((Int × Int × List Int))))) ((IntKind.i64.wrap ((first : Int) + (1:Int))), s297.2.1, s297.2.2.1, s297.2.2.2)).bind fun (p352 : (Int × Int × List Int)) => (some (.inl ((IntKind.i64.wrap (s297.1 - (1:Int))), p352.2.1, p352.1, p352.2.2))) else (some (.inr s297.2.2.2))) : Option ((Int × Int × Int × List Int) ⊕ ((List Int)))))
            ((k : Int) - 1, st.2.2, (st.1 : Int), st.2.1) = some (outS (l.map (edN m)) Ly first k st).2.1 := by
        intro k
        induction k with
        | zero =>
          intro st _ _
          rw [tailrec_eq]
          simp only
          rw [if_neg (by simp)]
          rfl
        | succ k ih =>
          intro st hk hst
          have e8 := inn k (by omega) (l.length - (first + 1)) (first + 1) st (by omega) (by omega)
          have hlen := inS_len (E := l.map (edN m)) (L := Ly k) (l.length - (first + 1)) (first + 1) st
          rw [← w64_succ (n := l.length) (k := first) (by omega) (by omega)] at e8
          rw [tailrec_eq]
          simp only
          rw [show ((k + 1 : Nat) : Int) - 1 = (k : Int) by omega, if_pos (by simp), e8]
          simp only [Option.bind_some]
          rw [w64 (n := (k : Int) - 1) (by omega) (by omega)]
          refine (ih (inS (l.map (edN m)) (Ly k) (l.length - (first + 1)) (first + 1) st) (by omega) (by omega)).trans ?_
          conv => rhs; unfold outS
          rw [List.length_map]
      have e9 := out (many - 1) (rowN m l[first].B, [(first : Int)], l[first].N) (by omega) (by simp; omega)
      rw [show ((many - 1 : Nat) : Int) - 1 = IntKind.i64.wrap ((many : Int) - 2) by rw [w64 (by omega) (by omega)]; omega] at e9
      exact (congrArg (Option.bind · _) e9).trans rfl
  · have hL' : decide (Ly (many - 1) (rowN m l[first].B) ≥ (1099511627776:Int)) = true := by simpa using hL
    have hg : goesB (Ly (many - 1)) l[first].N 0 (rowN m l[first].B) = false := by
      unfold goesB; rw [show decide (Ly (many - 1) (rowN m l[first].B) < INF) = false by simpa using hL]; rfl
    rw [hL', hg]
    simp only [show (true == false) = false from rfl, opt_false, Option.bind_some, Bool.true_or, if_true, Bool.not_false]
    rw [w64_succ hf (by omega)]

end Go.Proofs.Ytjniiejgccdhiaa
