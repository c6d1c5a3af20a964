/- Package bounds: BoundsFilled holds of the Lean functions. No condition. -/
import Derived.Test.YtjniiejgccdhiaaBoundsZ
import Derived.Test.YtjniiejgccdhiaaBenJ
namespace Go.Proofs.Ytjniiejgccdhiaa
open Go.Sim

theorem turn_step {m : Nat} {x : SDiff} (h6 : m ≤ 6) (h1 : 1 ≤ m) (h : okD ((m : Int) - 1) x) :
    ((if (decide (((SDiff.mk (x).A (x).B (x).N)).A ≥ (0:Int))) = true then (some { (SDiff.mk (x).A (x).B (x).N) with A := (IntKind.i64.wrap ((IntKind.i64.wrap (((m : Int) - 1) - (1:Int))) - ((SDiff.mk (x).A (x).B (x).N)).A)) }) else (some (SDiff.mk (x).A (x).B (x).N)))).bind (fun (p92 : SDiff) => ((if (decide ((p92).B ≥ (0:Int))) = true then (some { p92 with B := (IntKind.i64.wrap ((IntKind.i64.wrap (((m : Int) - 1) - (1:Int))) - (p92).B)) }) else (some p92)))) = some (turnD ((m : Int) - 1) x) := by
  unfold okD at h
  have w1 : IntKind.i64.wrap (((m : Int) - 1) - 1) = (m : Int) - 1 - 1 := w64 (by omega) (by omega)
  unfold turnD
  simp only
  rw [w1]
  by_cases ha : x.A ≥ 0
  · rw [if_pos (by simpa using ha), if_pos ha]
    simp only [Option.bind_some]
    rw [w64 (n := (m : Int) - 1 - 1 - x.A) (by omega) (by omega)]
    by_cases hb : x.B ≥ 0
    · rw [if_pos (by simpa using hb), if_pos hb, w64 (n := (m : Int) - 1 - 1 - x.B) (by omega) (by omega)]
    · rw [if_neg (by simpa using hb), if_neg hb]
  · rw [if_neg (by simpa using ha), if_neg ha]
    simp only [Option.bind_some]
    by_cases hb : x.B ≥ 0
    · rw [if_pos (by simpa using hb), if_pos hb, w64 (n := (m : Int) - 1 - 1 - x.B) (by omega) (by omega)]
    · rw [if_neg (by simpa using hb), if_neg hb]

theorem fillS_ok {m : Nat} {l : List SDiff} {picks : List Int} (hv : Valid m l) (h : (fillS ((m : Int) - 1) l picks).2 = 0) : negB m (tP m l) = false ∧ fillE (tab m (tP m l)) picks (m - 1) [] = .inl (fillS ((m : Int) - 1) l picks).1 := by
  unfold fillS at h ⊢
  rw [closeS_valid hv] at h ⊢
  rw [show ((m : Int) - 1).toNat = m - 1 by omega] at h ⊢
  cases hn : negB m (tP m l) with
  | true =>
    rw [hn] at h
    simp at h
  | false =>
    rw [hn] at h
    simp only [Bool.false_eq_true, if_false, ne_eq, not_true_eq_false] at h ⊢
    refine ⟨trivial, ?_⟩
    cases hf : fillE (tab m (tP m l)) picks (m - 1) [] with
    | inl p => rfl
    | inr p => rw [hf, fillE_err _ _ _ hf] at h; simp at h
theorem fillS_err {m : Nat} {l : List SDiff} {picks : List Int} (hv : Valid m l) (h : (fillS ((m : Int) - 1) l picks).2 ≠ 0) : ((fillS ((m : Int) - 1) l picks).2 = 14 ∧ negB m (tP m l) = true) ∨ (fillS ((m : Int) - 1) l picks).2 = 5 := by
  unfold fillS at h ⊢
  rw [closeS_valid hv] at h ⊢
  rw [show ((m : Int) - 1).toNat = m - 1 by omega] at h ⊢
  cases hn : negB m (tP m l) with
  | true => left; simp
  | false =>
    right
    rw [hn] at h
    simp only [Bool.false_eq_true, if_false, ne_eq, not_true_eq_false] at h ⊢
    cases hf : fillE (tab m (tP m l)) picks (m - 1) [] with
    | inl p => rw [hf] at h; simp at h
    | inr p => rw [fillE_err _ _ _ hf]

theorem kept_nil {m : Nat} {G : Nat → Nat → Int} (hG : Small m G) : Kept m G ((([] : List Int).length : Int) * 2097152) [] := by
  refine ⟨by simp, by simp, fun x hx => (by cases hx), fun i j hi hj hf => ?_⟩
  have m2 := hG.m2
  have h1 : i = m - 1 := by
    rcases hi with h | h
    · simp at h
    · exact h
  have h2 : j = m - 1 := by
    rcases hj with h | h
    · simp at h
    · exact h
  subst h1; subst h2
  have := hG.diag (m - 1) (by omega)
  omega

theorem filled_true (l picks : List Int) (hl : ∀ x ∈ l, I64 x) (_ : ∀ x ∈ picks, I64 x) : fBoundsFilled l picks = some true := by
  unfold fBoundsFilled
  obtain ⟨n, d, hm, h1, h5, hd, hok⟩ := made14_is l hl
  rw [hm]
  simp only [Option.bind_some]
  rw [own_is d (by omega)]
  simp only [Option.bind_some]
  rw [fill_is]
  simp only [Option.bind_some]
  obtain ⟨m, rfl, hm2, hm6, hv⟩ := made_valid h1 h5 hd hok
  by_cases he : (fillS ((m : Int) - 1) d picks).2 = 0
  · rw [if_neg (by simpa using he)]
    obtain ⟨hneg, hfe⟩ := fillS_ok hv he
    have hS := tP_Small hv hm2 hm6 hok hneg
    generalize (fillS ((m : Int) - 1) d picks).1 = a at hfe
    obtain ⟨a1, a2, a3⟩ := fill_kept hS picks (m - 1) [] a (by simp) (kept_nil hS) hfe
    have hsol := kept_sol hv a1 a2
    have hE : ∀ q, q < m - 1 → Ends m (tP m d) q := fun q hq => a3 q (by simp) hq
    have hhold := sol_holds hok a1 (by omega) a2.b0 a2.b1 a2.bd hsol
    have ne0 : ((a.length : Int) != (m : Int) - 1) = false := by rw [a1]; simp; omega
    rw [ne0]
    simp only [BEq.rfl, opt_true, Option.bind_some]
    rw [holds_is _ _ (by omega), hhold]
    simp only [Option.bind_some, bne_self_eq_false, Bool.or_self, Bool.false_eq_true, if_false]
    refine for_bind d.length (fun k => ((k : Int), (d.take k).map (turnD ((m : Int) - 1)))) (d.map (turnD ((m : Int) - 1))) rfl ?_ (by rw [if_neg (by simp), List.take_length]) ?_
    · intro k hk
      simp only
      rw [if_pos (by simpa using hk)]
      simp only [idx_lt hk, Option.bind_some]
      have ht := turn_step hm6 (by omega) (hok _ (List.getElem_mem hk))
      rw [← Option.bind_assoc]
      refine (congrArg (Option.bind · _) ht).trans ?_
      simp only [Option.bind_some]
      rw [rm_le (by simp; omega), w64_succ hk (by omega), List.take_succ_eq_append_getElem hk, List.map_append]
      rfl
    · have hokt : ∀ y ∈ d.map (turnD ((m : Int) - 1)), okD ((m : Int) - 1) y := by
        intro y hy
        obtain ⟨x, hx, rfl⟩ := List.mem_map.1 hy
        exact turn_ok (hok x hx)
      have hvt : Valid m (d.map (turnD ((m : Int) - 1))) := ok_valid (by omega) hm6 (by simpa using hd) hokt
      have hnegt := sol_neg hvt (sol_back hok hsol)
      rw [fill_is, close_is, closeS_valid hv, hneg]
      simp only [Option.bind_some, Bool.false_eq_true, if_false]
      by_cases he2 : (fillS ((m : Int) - 1) (d.map (turnD ((m : Int) - 1))) picks).2 = 0
      · rw [if_neg (by simpa using he2)]
        obtain ⟨_, hft⟩ := fillS_ok hvt he2
        have hSt := tP_Small hvt hm2 hm6 hokt hnegt
        generalize (fillS ((m : Int) - 1) (d.map (turnD ((m : Int) - 1))) picks).1 = t at hft
        obtain ⟨t1, t2, _⟩ := fill_kept hSt picks (m - 1) [] t (by simp) (kept_nil hSt) hft
        have tsol := (sol_turn hok).1 (kept_sol hvt t1 t2)
        have ne1 : ((t.length : Int) != (m : Int) - 1) = false := by rw [t1]; simp; omega
        rw [ne1]
        simp only [bne_self_eq_false, Bool.or_self, Bool.false_eq_true, if_false]
        obtain ⟨V, hVe⟩ : ∃ V, V = t.reverse := ⟨_, rfl⟩
        have V1 : V.length = m - 1 := by rw [hVe, List.length_reverse, t1]
        have Vb : ∀ x ∈ V, -(((m - 1 : Nat) : Int) * 2097152) ≤ x ∧ x ≤ ((m - 1 : Nat) : Int) * 2097152 := fun x hx => t2.bd x (by rw [hVe] at hx; exact List.mem_reverse.1 hx)
        have Vs : ∀ i j, i < m → j < m → tP m d i j < INF → vv m V i ≤ vv m V j + tP m d i j := by
          intro i j hi hj hf
          rw [hVe, vv_rev t1 hi, vv_rev t1 hj]
          exact sol_kept hv tsol hi hj hf
        have hK : ∀ k, k ≤ m - 1 → Kept m (tP m d) (((m - 1 : Nat) : Int) * 2097152) (V.take k) := fun k hk => kept_take V1 (by omega) t2.b0 t2.b1 Vb Vs k hk
        have hR := fun k (hk : k < m - 1) => in_range hS V1 t2.b0 t2.b1 Vb Vs hk (hE k hk)
        obtain ⟨C, hCe⟩ : ∃ C, C = (List.range (m - 1)).map fun k => V.getD k 0 - (loB (tab m (tP m d)) (V.take k) (k + 1)).2 := ⟨_, rfl⟩
        have C1 : C.length = m - 1 := by rw [hCe]; simp
        have hC : ∀ k, k < m - 1 → C.getD k 0 = V.getD k 0 - (loB (tab m (tP m d)) (V.take k) (k + 1)).2 := by
          intro k hk
          rw [hCe, List.getD_eq_getElem?_getD, List.getElem?_map, List.getElem?_range hk]; rfl
        have hag := fill_again hS V C V1 (by omega) hK hE hC hR (m - 1) 0 (by omega)
        rw [List.take_zero] at hag
        have hVsol : SolE m (vv m V) d := by
          intro x hx
          have h := hok x hx
          unfold okD at h
          rw [hVe, vv_rev t1 (rowN_lt h.1 h.2.1), vv_rev t1 (rowN_lt h.2.2.1 h.2.2.2.1)]
          exact tsol x hx
        have Vhold := sol_holds hok V1 (by omega) t2.b0 t2.b1 Vb hVsol
        have hfin : fillS ((m : Int) - 1) d C = (V, 0) := by
          unfold fillS
          rw [closeS_valid hv, hneg, show ((m : Int) - 1).toNat = m - 1 by omega]
          simp only [Bool.false_eq_true, if_false, ne_eq, not_true_eq_false]
          rw [hag]
        refine for_bind (m - 1) (fun k => ((k : Int), C.take k, V.take k)) (.inl (C, V)) (by simp) ?_ ?_ ?_
        · intro k hk
          simp only
          have hg := hR k hk
          have hKk := hK k (by omega)
          have hlen : (V.take k).length = k := by rw [List.length_take]; omega
          have b1 := (rng_lo hS (by omega) hKk).2.1
          have b2 := (rng_hi hS (by omega) hKk).2.1
          have good := rangeS_good hS (by omega) hKk (by rw [hlen]; omega)
          rw [hlen] at b1 b2 good
          have b1 := b1 (hE k hk).1
          have b2 := b2 (hE k hk).2
          have bb := t2.b1
          rw [if_pos (by simp; omega)]
          have e1 : idx t (IntKind.i64.wrap (IntKind.i64.wrap ((m : Int) - 1 - 1) - (k : Int))) = some (V.getD k 0) := by
            rw [w64 (n := (m : Int) - 1 - 1) (by omega) (by omega), w64 (by omega) (by omega), show (m : Int) - 1 - 1 - (k : Int) = ((m - 2 - k : Nat) : Int) by omega, getD_nat t (m - 2 - k) (by omega) 0]
            have this : ∀ W : List Int, W = t.reverse → W.getD k 0 = t.getD (m - 2 - k) 0 := by
              rintro W rfl
              rw [List.getD_eq_getElem?_getD, List.getD_eq_getElem?_getD, List.getElem?_reverse (by omega)]
              congr 2; omega
            rw [this V hVe]
          rw [e1]
          simp only [Option.bind_some]
          rw [range_is _ _ (by rw [tab_len]; omega) (by rw [hlen]; omega) (fun r hr => by obtain ⟨q, _, rfl⟩ := List.mem_map.1 hr; rw [rowL_len]; omega), good]
          simp only [Option.bind_some]
          rw [if_neg (by simp only [bne_self_eq_false, Bool.false_or, Bool.or_eq_true, decide_eq_true_eq]; omega), rm_le (by simp; omega), w64 (n := V.getD k 0 - (loB (tab m (tP m d)) (V.take k) (k + 1)).2) (by omega) (by omega)]
          simp only [Option.bind_some]
          rw [rm_le (by simp; omega)]
          simp only [Option.bind_some]
          rw [w64_succ hk (by omega)]
          have f1 : C.take k ++ [V.getD k 0 - (loB (tab m (tP m d)) (V.take k) (k + 1)).2] = C.take (k + 1) := by
            rw [← hC k hk, List.take_succ_eq_append_getElem (show k < C.length by omega), List.getD_eq_getElem?_getD, List.getElem?_eq_getElem (show k < C.length by omega)]; rfl
          have f2 : V.take k ++ [V.getD k 0] = V.take (k + 1) := by
            rw [List.take_succ_eq_append_getElem (show k < V.length by omega), List.getD_eq_getElem?_getD, List.getElem?_eq_getElem (show k < V.length by omega)]; rfl
          rw [f1, f2]
        · simp only
          rw [if_neg (by simp; omega), List.take_of_length_le (by omega), List.take_of_length_le (by omega)]
        · simp only
          rw [fill_is, hfin]
          simp only [Option.bind_some, BEq.rfl, opt_true, Bool.true_and]
          rw [sameInts_is _ _ (by omega)]
          simp only [Option.bind_some, decide_true, BEq.rfl, opt_true, Bool.true_and]
          rw [holds_is _ _ (by omega), Vhold, lives14_is]
          rfl
      · rw [if_pos (by simpa using he2)]
        rcases fillS_err hvt he2 with h | h
        · rw [hnegt] at h; cases h.2
        · rw [h, lives14_is]; rfl
  · rw [if_pos (by simpa using he)]
    rcases fillS_err hv he with h | h
    · rw [h.1, lives14_is]; rfl
    · rw [h, lives14_is]; rfl

end Go.Proofs.Ytjniiejgccdhiaa
