/- Package bounds: BoundsClosed holds of the Lean functions. No condition. -/
import Derived.Test.YtjniiejgccdhiaaBoundsR
namespace Go.Proofs.Ytjniiejgccdhiaa
open Go.Sim

theorem sameTables_tab (m : Nat) (G : Nat → Nat → Int) (hm : m < 1000000) : fSameTables (tab m G) (tab m G) = some true := by
  unfold fSameTables
  rw [if_neg (by simp)]
  refine for_bind m (fun k => (k : Int)) (.inl ()) rfl ?_ (by rw [if_neg (by rw [tab_len]; simp)]) rfl
  intro k hk
  rw [if_pos (by rw [tab_len]; simpa using hk), tab_idx hk]
  simp only [Option.bind_some]
  rw [sameInts_is _ _ (by rw [rowL_len]; exact hm)]
  simp only [Option.bind_some, decide_true, Bool.not_true, Bool.false_eq_true, if_false]
  rw [w64_succ hk (by omega)]

theorem tri_loop {m i k : Nat} {G : Nat → Nat → Int} (hm : m ≤ 11) (hi : i < m) (hk : k < m) (hs : ∀ i k, i < m → k < m → -2097152 ≤ G i k ∧ G i k ≤ INF) (ht : ∀ j, j < m → G i j < INF → G j k < INF → G i k ≤ G i j + G j k) :
    tailrec (fun (s233 : Int) => ((if (decide (s233 ≤ (m : Int) - 1)) = true then (idx (tab m G) (i : Int)).bind fun t82 => (idx t82 s233).bind fun t85 => (opt ((decide (t85 < (1099511627776:Int))) == true) (idx (tab m G) s233) default).bind fun t91 => (opt ((decide (t85 < (1099511627776:Int))) == true) (idx t91 (k : Int)) default).bind fun t94 => (opt (((decide (t85 < (1099511627776:Int))) && (decide (t94 < (1099511627776:Int)))) == true) (idx (tab m G) (i : Int)) default).bind fun t101 => (opt (((decide (t85 < (1099511627776:Int))) && (decide (t94 < (1099511627776:Int)))) == true) (idx t101 (k : Int)) default).bind fun t104 => (opt (((decide (t85 < (1099511627776:Int))) && (decide (t94 < (1099511627776:Int)))) == true) (idx (tab m G) (i : Int)) default).bind fun t108 => (opt (((decide (t85 < (1099511627776:Int))) && (decide (t94 < (1099511627776:Int)))) == true) (idx t108 s233) default).bind fun t111 => (opt (((decide (t85 < (1099511627776:Int))) && (decide (t94 < (1099511627776:Int)))) == true) (idx (tab m G) s233) default).bind fun t115 => (opt (((decide (t85 < (1099511627776:Int))) && (decide (t94 < (1099511627776:Int)))) == true) (idx t115 (k : Int)) default).bind fun t118 => (if (((decide (t85 < (1099511627776:Int))) && (decide (t94 < (1099511627776:Int)))) && (decide (t104 > (IntKind.i64.wrap (t111 + t118))))) = true then (some (.inr (.inr false))) else (some (.inl (IntKind.i64.wrap (s233 + (1:Int)))))) else (some (.inr (.inl ())))) : Option ((Int) ⊕ ((Unit) ⊕ (Bool))))) (0:Int) = some (.inl ()) := by
  refine tailrec_for m (fun j => (j : Int)) _ ?_ ?_
  · intro j hj
    have u0 : INF = 1099511627776 := rfl
    rw [if_pos (by simp; omega), tab_idx hi]
    simp only [Option.bind_some]
    rw [rowL_idx hj]
    simp only [Option.bind_some]
    by_cases h1 : G i j < INF
    · have d1 : decide (G i j < (1099511627776:Int)) = true := by simpa using h1
      rw [d1]
      simp only [BEq.rfl, opt_true, Bool.true_and]
      rw [tab_idx hj]
      simp only [Option.bind_some]
      rw [rowL_idx hk]
      simp only [Option.bind_some]
      by_cases h2 : G j k < INF
      · have d2 : decide (G j k < (1099511627776:Int)) = true := by simpa using h2
        rw [d2]
        simp only [BEq.rfl, opt_true, Bool.true_and, Option.bind_some]
        rw [rowL_idx hk]
        simp only [Option.bind_some]
        rw [rowL_idx hj]
        simp only [Option.bind_some]
        rw [rowL_idx hk]
        simp only [Option.bind_some]
        have a := hs i j hi hj
        have b := hs j k hj hk
        have c := ht j hj h1 h2
        rw [w64 (n := G i j + G j k) (by omega) (by omega), if_neg (by simp; omega), w64_succ hj (by omega)]
      · have d2 : decide (G j k < (1099511627776:Int)) = false := by simpa using h2
        rw [d2]
        simp only [show (false == true) = false from rfl, opt_false, Bool.false_and, Option.bind_some, Bool.false_eq_true, if_false]
        rw [w64_succ hj (by omega)]
    · have d1 : decide (G i j < (1099511627776:Int)) = false := by simpa using h1
      rw [d1]
      simp only [show (false == true) = false from rfl, opt_false, Bool.false_and, Option.bind_some, Bool.false_eq_true, if_false]
      rw [w64_succ hj (by omega)]
  · rw [if_neg (by simp; omega)]

theorem k_loop {m i : Nat} {G : Nat → Nat → Int} (hm : m ≤ 11) (hi : i < m) (hs : ∀ i k, i < m → k < m → -2097152 ≤ G i k ∧ G i k ≤ INF) (ht : ∀ j k, j < m → k < m → G i j < INF → G j k < INF → G i k ≤ G i j + G j k) (pre : List SDiff) (hpre : pre.length ≤ 1000) :
    tailrec (fun (s167 : Int × List SDiff) => ((if (decide (s167.1 ≤ (m : Int) - 1)) = true then (tailrec (fun (s233 : Int) => ((if (decide (s233 ≤ (m : Int) - 1)) = true then (idx (tab m G) (i : Int)).bind fun t82 => (idx t82 s233).bind fun t85 => (opt ((decide (t85 < (1099511627776:Int))) == true) (idx (tab m G) s233) default).bind fun t91 => (opt ((decide (t85 < (1099511627776:Int))) == true) (idx t91 s167.1) default).bind fun t94 => (opt (((decide (t85 < (1099511627776:Int))) && (decide (t94 < (1099511627776:Int)))) == true) (idx (tab m G) (i : Int)) default).bind fun t101 => (opt (((decide (t85 < (1099511627776:Int))) && (decide (t94 < (1099511627776:Int)))) == true) (idx t101 s167.1) default).bind fun t104 => (opt (((decide (t85 < (1099511627776:Int))) && (decide (t94 < (1099511627776:Int)))) == true) (idx (tab m G) (i : Int)) default).bind fun t108 => (opt (((decide (t85 < (1099511627776:Int))) && (decide (t94 < (1099511627776:Int)))) == true) (idx t108 s233) default).bind fun t111 => (opt (((decide (t85 < (1099511627776:Int))) && (decide (t94 < (1099511627776:Int)))) == true) (idx (tab m G) s233) default).bind fun t115 => (opt (((decide (t85 < (1099511627776:Int))) && (decide (t94 < (1099511627776:Int)))) == true) (idx t115 s167.1) default).bind fun t118 => (if (((decide (t85 < (1099511627776:Int))) && (decide (t94 < (1099511627776:Int)))) && (decide (t104 > (IntKind.i64.wrap (t111 + t118))))) = true then (some (.inr (.inr false))) else (some (.inl (IntKind.i64.wrap (s233 + (1:Int)))))) else (some (.inr (.inl ())))) : Option ((Int) ⊕ ((Unit) ⊕ (Bool))))) (0:Int)).bind fun (e234 : (Unit) ⊕ (Bool)) => (match e234 with | .inl p242 => (opt (((i : Int) != s167.1) == true) (idx (tab m G) (i : Int)) default).bind fun t129 => (opt (((i : Int) != s167.1) == true) (idx t129 s167.1) default).bind fun t132 => ((if (((i : Int) != s167.1) && (decide (t132 < (1099511627776:Int)))) = true then (idx (tab m G) (i : Int)).bind fun t140 => (idx t140 s167.1).bind fun t143 => ((if ((i : Int) == (m : Int) - 1) = true then (some { (SDiff.mk (i : Int) s167.1 t143) with A := (-1:Int) }) else (some (SDiff.mk (i : Int) s167.1 t143)))).bind fun (p264 : SDiff) => ((if (s167.1 == (m : Int) - 1) = true then (some { p264 with B := (-1:Int) }) else (some p264))).bind fun (p268 : SDiff) => (rm (s167.2.length + [p268].length)).bind fun _ => (some (s167.2 ++ [p268])) else (some s167.2))).bind fun (p245 : List SDiff) => (some (.inl ((IntKind.i64.wrap (s167.1 + (1:Int))), p245))) | .inr p243 => (some (.inr (.inr p243)))) else (some (.inr (.inl s167.2)))) : Option ((Int × List SDiff) ⊕ ((List SDiff) ⊕ (Bool))))) ((0:Int), pre) = some (.inl (pre ++ rowD m G i)) := by
  have h0 : ((0:Int), pre) = (((0 : Nat) : Int), pre ++ (List.range 0).flatMap (cellD m G i)) := by simp
  rw [h0]
  refine tailrec_for m (fun k => ((k : Int), pre ++ (List.range k).flatMap (cellD m G i))) _ ?_ ?_
  · intro k hk
    simp only
    rw [if_pos (by simp; omega)]
    refine (congrArg (Option.bind · _) (tri_loop hm hi hk hs fun j hj => ht j k hj hk)).trans ?_
    simp only [Option.bind_some]
    rw [tab_idx hi, flat_snoc, ← List.append_assoc, w64_succ hk (by omega)]
    have hlen := flat_len (fun k => cellD_len (m := m) (G := G) i k) k
    generalize (List.range k).flatMap (cellD m G i) = post at hlen
    by_cases hik : i = k
    · subst hik
      rw [bne_self_eq_false]
      simp only [show (false == true) = false from rfl, opt_false, Bool.false_and, Option.bind_some, Bool.false_eq_true, if_false]
      unfold cellD
      rw [if_neg (fun h => h.1 rfl), List.append_nil]
    · have d0 : ((i : Int) != (k : Int)) = true := by simp; omega
      rw [d0]
      simp only [BEq.rfl, opt_true, Bool.true_and, Option.bind_some]
      rw [rowL_idx hk]
      simp only [Option.bind_some]
      by_cases hf : G i k < INF
      · rw [if_pos (by simpa using hf)]
        have hc : cellD m G i k = [SDiff.mk (backA m i) (backA m k) (G i k)] := if_pos ⟨hik, hf⟩
        rw [hc]
        have e1 : (if ((i : Int) == (m : Int) - 1) = true then some { (SDiff.mk (i : Int) (k : Int) (G i k)) with A := (-1:Int) } else some (SDiff.mk (i : Int) (k : Int) (G i k))) = some (SDiff.mk (backA m i) (k : Int) (G i k)) := by
          unfold backA
          by_cases h : i + 1 = m
          · rw [if_pos h, if_pos (by simp; omega)]
          · rw [if_neg h, if_neg (by simp; omega)]
        have e2 : (if ((k : Int) == (m : Int) - 1) = true then some { (SDiff.mk (backA m i) (k : Int) (G i k)) with B := (-1:Int) } else some (SDiff.mk (backA m i) (k : Int) (G i k))) = some (SDiff.mk (backA m i) (backA m k) (G i k)) := by
          conv => rhs; rw [show backA m k = if k + 1 = m then -1 else (k : Int) from rfl]
          by_cases h : k + 1 = m
          · rw [if_pos h, if_pos (by simp; omega)]
          · rw [if_neg h, if_neg (by simp; omega)]
        rw [e1]
        simp only [Option.bind_some]
        refine (congrArg (fun z => Option.bind (Option.bind z _) _) e2).trans ?_
        simp only [Option.bind_some]
        rw [rm_le (by simp; omega)]
        rfl
      · rw [if_neg (by simpa using hf)]
        have hc : cellD m G i k = [] := if_neg fun h => hf h.2
        rw [hc, List.append_nil]
        rfl
  · simp only
    rw [if_neg (by simp; omega)]
    rfl

theorem closed_true (l : List Int) (hl : ∀ x ∈ l, I64 x) : fBoundsClosed l = some true := by
  unfold fBoundsClosed
  obtain ⟨n, d, hm, h1, h5, hd, hok⟩ := made14_is l hl
  rw [hm]
  simp only [Option.bind_some]
  rw [own_is d (by omega)]
  simp only [Option.bind_some]
  rw [close_is]
  simp only [Option.bind_some]
  obtain ⟨m, rfl, hm2, hm6, hv⟩ := made_valid h1 h5 hd hok
  have hN : ∀ x ∈ d, -7 ≤ x.N ∧ x.N ≤ 15 := fun x hx => by have := hok x hx; unfold okD at this; omega
  have hcl := closeS_valid hv
  have hag := closed_again hv hm6 hN
  cases hneg : negB m (tP m d) with
  | true =>
    rw [hneg, if_pos rfl] at hcl
    rw [hcl, lives14_is]
    rfl
  | false =>
    rw [hneg, if_neg (by simp)] at hcl
    have hag := hag hneg
    have hf := tP_fin hv
    rw [negB_false] at hneg
    have hs : ∀ i k, i < m → k < m → -2097152 ≤ tP m d i k ∧ tP m d i k ≤ INF := fun i k hi hk => ⟨(tP_small hv hm6 hN hi hk).1, hf.hi i k hi hk⟩
    have h0 : ∀ i, i < m → tP m d i i = 0 := fun i hi => by have := hf.diag i hi; have := hneg i hi; omega
    have ht := hf.tri hneg
    rw [hcl]
    generalize tP m d = G at *
    simp only [bne_self_eq_false, Bool.false_eq_true, if_false]
    rw [tab_len, m_wrap (by omega)]
    simp only [bne_self_eq_false, Bool.false_eq_true, if_false]
    refine for_bind m (fun k => (k : Int)) (.inl ()) rfl ?_ (by rw [if_neg (by simp; omega)]) ?_
    · intro k hk
      rw [if_pos (by simp; omega), tab_idx hk]
      simp only [Option.bind_some]
      rw [rowL_len]
      simp only [bne_self_eq_false, Bool.false_eq_true, if_false]
      rw [w64_succ hk (by omega)]
    · simp only
      refine for_bind m (fun i => ((i : Int), (List.range i).flatMap (rowD m G))) (.inl (allD m G)) rfl ?_ (by simp only; rw [if_neg (by simp; omega)]; rfl) ?_
      · intro i hi
        simp only
        rw [if_pos (by simp; omega)]
        have e0 : idx (rowL m (G i)) (i : Int) = some 0 := by rw [rowL_idx hi, h0 i hi]
        have ek := k_loop (by omega) hi hs (fun j k hj hk h1 h2 => ht j hj i k hi hk h1 h2) ((List.range i).flatMap (rowD m G)) (by
          have := flat_len (fun i => rowD_len (m := m) (G := G) i) i
          have h36 : i * m ≤ 6 * 6 := Nat.mul_le_mul (by omega) hm6
          omega)
        have e1 : ∀ (f : List Int → Option ((Int × List SDiff) ⊕ ((List SDiff) ⊕ Bool))), (idx (tab m G) (i : Int)).bind f = f (rowL m (G i)) := fun f => by rw [tab_idx hi]; rfl
        have e2 : ∀ (f : Int → Option ((Int × List SDiff) ⊕ ((List SDiff) ⊕ Bool))), (idx (rowL m (G i)) (i : Int)).bind f = f 0 := fun f => by rw [e0]; rfl
        rw [e1, e2]
        simp only [bne_self_eq_false, Bool.false_eq_true, if_false]
        refine (congrArg (Option.bind · _) ek).trans ?_
        simp only [Option.bind_some]
        rw [flat_snoc, w64_succ hi (by omega)]
      · simp only
        rw [close_is, hag]
        simp only [Option.bind_some, BEq.rfl, opt_true]
        rw [sameTables_tab _ _ (by omega)]
        simp only [Option.bind_some, Bool.and_self, BEq.rfl, opt_true, lives14_is]

end Go.Proofs.Ytjniiejgccdhiaa
