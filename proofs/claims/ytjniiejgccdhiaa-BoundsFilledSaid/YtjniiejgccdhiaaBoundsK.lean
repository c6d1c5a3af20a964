/- Package bounds: what the laws make; BoundsRanges holds of the Lean functions. No condition. -/
import Derived.Test.YtjniiejgccdhiaaBoundsJ
import Derived.Test.YtjniiejgccdhiaaBoundsD
import Derived.Test.YtjniiejgccdhiaaBenH
import Derived.Test.YtjniiejgccdhiaaBoundsA
namespace Go.Proofs.Ytjniiejgccdhiaa
open Go.Sim

def okD (n : Int) (d : SDiff) : Prop := -1 ≤ d.A ∧ d.A < n ∧ -1 ≤ d.B ∧ d.B < n ∧ d.A ≠ d.B ∧ -7 ≤ d.N ∧ d.N ≤ 15

theorem made14_is (l : List Int) (hl : ∀ x ∈ l, I64 x) : ∃ n d, fMade14 l = some (n, d) ∧ 1 ≤ n ∧ n ≤ 5 ∧ d.length ≤ 17 ∧ ∀ x ∈ d, okD n x := by
  unfold fMade14
  obtain ⟨r, hr, r0, r1⟩ := at_is l 0 5 hl (by omega)
  rw [hr]
  simp only [Option.bind_some]
  rw [w64 (n := 1 + r) (by omega) (by omega)]
  obtain ⟨n, hn⟩ : ∃ n : Nat, 1 + r = (n : Int) := ⟨_, (Int.toNat_of_nonneg (by omega)).symm⟩
  rw [hn]
  have hn5 : 1 ≤ n ∧ n ≤ 5 := by omega
  obtain ⟨d1, h1, h2, h3⟩ := loop_ex (body := (fun (s7 : Int × List SDiff) => ((if (decide (s7.1 < (n : Int))) = true then (fAt l (IntKind.i64.wrap ((1:Int) + s7.1)) (12:Int)).bind fun t23 => (fAt l (IntKind.i64.wrap ((7:Int) + s7.1)) (9:Int)).bind fun t28 => ((if (decide (t28 > (0:Int))) = true then (rm (s7.2.length + [(SDiff.mk (-1:Int) s7.1 (IntKind.i64.wrap (0 - (IntKind.i64.wrap (t23 - (4:Int))))))].length)).bind fun _ => (some (s7.2 ++ [(SDiff.mk (-1:Int) s7.1 (IntKind.i64.wrap (0 - (IntKind.i64.wrap (t23 - (4:Int))))))])) else (some s7.2))).bind fun (p68 : List SDiff) => (fAt l (IntKind.i64.wrap ((13:Int) + s7.1)) (9:Int)).bind fun t40 => ((if (decide (t40 > (0:Int))) = true then (fAt l (IntKind.i64.wrap ((19:Int) + s7.1)) (9:Int)).bind fun t48 => (rm (p68.length + [(SDiff.mk s7.1 (-1:Int) (IntKind.i64.wrap ((IntKind.i64.wrap (t23 - (4:Int))) + t48)))].length)).bind fun _ => (some (p68 ++ [(SDiff.mk s7.1 (-1:Int) (IntKind.i64.wrap ((IntKind.i64.wrap (t23 - (4:Int))) + t48)))])) else (some p68))).bind fun (p72 : List SDiff) => (some (.inl ((IntKind.i64.wrap (s7.1 + (1:Int))), p72))) else (some (.inr s7.2))) : Option ((Int × List SDiff) ⊕ ((List SDiff))))))
      n (fun k s => s.1 = (k : Int) ∧ s.2.length ≤ 2 * k ∧ ∀ x ∈ s.2, okD (n : Int) x) (fun r => r.length ≤ 10 ∧ ∀ x ∈ r, okD (n : Int) x) (s0 := ((0:Int), ([] : List SDiff))) ⟨rfl, by simp, fun x hx => by simp at hx⟩
      (by
        rintro k ⟨s1, s2⟩ hk ⟨e, hlen, hok⟩
        simp only at e hlen hok ⊢
        subst e
        rw [if_pos (by simpa using hk)]
        obtain ⟨a, ha, a0, a1⟩ := at_is l (IntKind.i64.wrap ((1:Int) + k)) 12 hl (by omega)
        obtain ⟨b, hb, b0, b1⟩ := at_is l (IntKind.i64.wrap ((7:Int) + k)) 9 hl (by omega)
        obtain ⟨c, hc, c0, c1⟩ := at_is l (IntKind.i64.wrap ((13:Int) + k)) 9 hl (by omega)
        obtain ⟨e, he, e0, e1⟩ := at_is l (IntKind.i64.wrap ((19:Int) + k)) 9 hl (by omega)
        rw [ha, hb, hc, he]
        simp only [Option.bind_some]
        rw [w64 (n := a - 4) (by omega) (by omega), w64 (n := 0 - (a - 4)) (by omega) (by omega), w64 (n := a - 4 + e) (by omega) (by omega)]
        have s1ok : ∃ p, (if decide (b > 0) = true then (rm (s2.length + [SDiff.mk (-1) (k : Int) (0 - (a - 4))].length)).bind fun _ => some (s2 ++ [SDiff.mk (-1) (k : Int) (0 - (a - 4))]) else some s2) = some p ∧ p.length ≤ 2 * k + 1 ∧ ∀ x ∈ p, okD (n : Int) x := by
          by_cases hb2 : b > 0
          · rw [if_pos (by simpa using hb2), rm_le (by simp; omega)]
            refine ⟨_, rfl, by simp; omega, fun x hx => ?_⟩
            rcases List.mem_append.1 hx with hx | hx
            · exact hok x hx
            · obtain rfl := List.mem_singleton.1 hx
              unfold okD; simp only; omega
          · rw [if_neg (by simpa using hb2)]
            exact ⟨_, rfl, by omega, hok⟩
        obtain ⟨p, hp, pl, pok⟩ := s1ok
        rw [hp]
        simp only [Option.bind_some]
        by_cases hc2 : c > 0
        · rw [if_pos (by simpa using hc2), rm_le (by simp; omega)]
          refine ⟨_, rfl, ?_, by simp; omega, fun x hx => ?_⟩
          · simp only; rw [w64_succ (n := n) hk (by omega)]
          · rcases List.mem_append.1 hx with hx | hx
            · exact pok x hx
            · obtain rfl := List.mem_singleton.1 hx
              unfold okD; simp only; omega
        · rw [if_neg (by simpa using hc2)]
          refine ⟨_, rfl, ?_, by simp; omega, pok⟩
          simp only; rw [w64_succ (n := n) hk (by omega)])
      (by
        rintro ⟨s1, s2⟩ ⟨e, hlen, hok⟩
        simp only at e hlen hok ⊢
        subst e
        rw [if_neg (by simp)]
        exact ⟨_, rfl, by omega, hok⟩)
  rw [h1]
  simp only [Option.bind_some]
  have hw6 : IntKind.i64.wrap ((n : Int) + 1) = (n : Int) + 1 := w64 (by omega) (by omega)
  rw [hw6]
  obtain ⟨d2, g1, g2, g3⟩ := loop_ex (body := (fun (s30 : Int × List SDiff) => ((if ((decide (s30.1 < (l.length : Int))) && (decide (s30.1 < (32:Int)))) = true then (fAt l s30.1 (1048576:Int)).bind fun t65 => (nz ((n : Int) + 1)).bind fun _ => (nz ((n : Int) + 1)).bind fun _ => ((if ((IntKind.i64.wrap ((Int.tmod t65 ((n : Int) + 1)) - (1:Int))) != (IntKind.i64.wrap ((Int.tmod (IntKind.i64.wrap (Int.tdiv t65 (8:Int))) ((n : Int) + 1)) - (1:Int)))) = true then (rm (s30.2.length + [(SDiff.mk (IntKind.i64.wrap ((Int.tmod t65 ((n : Int) + 1)) - (1:Int))) (IntKind.i64.wrap ((Int.tmod (IntKind.i64.wrap (Int.tdiv t65 (8:Int))) ((n : Int) + 1)) - (1:Int))) (IntKind.i64.wrap ((Int.tmod (IntKind.i64.wrap (Int.tdiv t65 (64:Int))) (11:Int)) - (3:Int))))].length)).bind fun _ => (some (s30.2 ++ [(SDiff.mk (IntKind.i64.wrap ((Int.tmod t65 ((n : Int) + 1)) - (1:Int))) (IntKind.i64.wrap ((Int.tmod (IntKind.i64.wrap (Int.tdiv t65 (8:Int))) ((n : Int) + 1)) - (1:Int))) (IntKind.i64.wrap ((Int.tmod (IntKind.i64.wrap (Int.tdiv t65 (64:Int))) (11:Int)) - (3:Int))))])) else (some s30.2))).bind fun (p56 : List SDiff) => (some (.inl ((IntKind.i64.wrap (s30.1 + (1:Int))), p56))) else (some (.inr s30.2))) : Option ((Int × List SDiff) ⊕ ((List SDiff))))))
      (min l.length 32 - 25) (fun k s => s.1 = ((25 + k : Nat) : Int) ∧ s.2.length ≤ 10 + k ∧ ∀ x ∈ s.2, okD (n : Int) x) (fun r => r.length ≤ 17 ∧ ∀ x ∈ r, okD (n : Int) x) (s0 := ((25:Int), d1)) ⟨rfl, by simpa using h2, h3⟩
      (by
        rintro k ⟨s1, s2⟩ hk ⟨e, hlen, hok⟩
        simp only at e hlen hok ⊢
        subst e
        rw [if_pos (by simp; omega)]
        obtain ⟨a, ha, a0, a1⟩ := at_is l ((25 + k : Nat) : Int) 1048576 hl (by omega)
        rw [ha]
        simp only [Option.bind_some]
        rw [nz_of (by omega)]
        simp only [Option.bind_some]
        have t1 : Int.tmod a ((n : Int) + 1) = a % ((n : Int) + 1) := Int.tmod_eq_emod_of_nonneg a0
        have t2 : Int.tdiv a 8 = a / 8 := Int.tdiv_eq_ediv_of_nonneg a0
        have t3 : Int.tdiv a 64 = a / 64 := Int.tdiv_eq_ediv_of_nonneg a0
        have q1 := Int.emod_nonneg a (b := (n : Int) + 1) (by omega)
        have q2 := Int.emod_lt_of_pos a (b := (n : Int) + 1) (by omega)
        have q3 := Int.emod_nonneg (a / 8) (b := (n : Int) + 1) (by omega)
        have q4 := Int.emod_lt_of_pos (a / 8) (b := (n : Int) + 1) (by omega)
        have q5 := Int.emod_nonneg (a / 64) (b := 11) (by omega)
        have q6 := Int.emod_lt_of_pos (a / 64) (b := 11) (by omega)
        rw [t1, t2, t3, w64 (n := a / 8) (by omega) (by omega), w64 (n := a / 64) (by omega) (by omega), Int.tmod_eq_emod_of_nonneg (a := a / 8) (by omega), Int.tmod_eq_emod_of_nonneg (a := a / 64) (by omega)]
        generalize a % ((n : Int) + 1) = u at q1 q2
        generalize a / 8 % ((n : Int) + 1) = v at q3 q4
        generalize a / 64 % 11 = w at q5 q6
        rw [w64 (n := u - 1) (by omega) (by omega), w64 (n := v - 1) (by omega) (by omega), w64 (n := w - 3) (by omega) (by omega)]
        have e5 : IntKind.i64.wrap (((25 + k : Nat) : Int) + 1) = ((25 + (k + 1) : Nat) : Int) := by rw [w64 (by omega) (by omega)]; omega
        rw [e5]
        by_cases huv : u - 1 = v - 1
        · rw [if_neg (by simpa using huv)]
          exact ⟨_, rfl, rfl, by simp only; omega, hok⟩
        · rw [if_pos (by simpa using huv), rm_le (by simp; omega)]
          refine ⟨_, rfl, rfl, by simp; omega, fun x hx => ?_⟩
          rcases List.mem_append.1 hx with hx | hx
          · exact hok x hx
          · obtain rfl := List.mem_singleton.1 hx
            unfold okD; simp only; omega)
      (by
        rintro ⟨s1, s2⟩ ⟨e, hlen, hok⟩
        simp only at e hlen hok ⊢
        subst e
        rw [if_neg (by simp; omega)]
        exact ⟨_, rfl, by omega, hok⟩)
  rw [g1]
  exact ⟨n, d2, rfl, by omega, by omega, g2, g3⟩

theorem closeS_shape (n : Int) (l : List SDiff) : (closeS n l).1 = [] ∨ ∃ m G, 1 ≤ m ∧ m ≤ 11 ∧ (closeS n l).1 = tab m G := by
  unfold closeS
  by_cases h : validS n l = 0
  · obtain ⟨m, rfl, hv⟩ := valid_of h
    rw [if_neg (by simpa using h)]
    have e : ((m : Int) - 1 + 1).toNat = m := by omega
    rw [e]
    split
    · exact .inl rfl
    · exact .inr ⟨m, tP m l, hv.m1, hv.m11, rfl⟩
  · rw [if_pos h]
    exact .inl rfl

theorem take_is (l : List Int) (most : Int) (h0 : 0 ≤ most) (h1 : most ≤ 1000) : fTake l most = some (l.take most.toNat) := by
  unfold fTake
  have hm := imin_le (l.length : Int) most
  have hs : sub l (0 : Int) (imin (l.length : Int) most) = some (l.take most.toNat) := by
    unfold sub
    rw [if_pos (by omega)]
    simp only [Int.toNat_zero, List.drop_zero, Nat.sub_zero]
    rcases hm.2.2 with e | e
    · rw [e]
      have : (l.length : Int) ≤ most := by have := hm.2.1; omega
      rw [List.take_of_length_le (by simp), List.take_of_length_le (by omega)]
    · rw [e]
  rw [hs]
  simp only [Option.bind_some]
  rw [rm_le (by simp; omega)]
  rfl

theorem copy_loop (c : List (List Int)) (hc : c.length < 1000000) (hr : ∀ r ∈ c, r.length < 1000000) :
    tailrec (fun (s9 : Int × List (List Int)) => ((if (decide (s9.1 < (c.length : Int))) = true then (idx c s9.1).bind fun t49 => (rm (([] : List Int).length + t49.length)).bind fun _ => (rm (s9.2.length + 1)).bind fun _ => (some (.inl ((IntKind.i64.wrap (s9.1 + (1:Int))), (s9.2 ++ [(([] : List Int) ++ t49)])))) else (some (.inr s9.2))) : Option ((Int × List (List Int)) ⊕ ((List (List Int)))))) ((0:Int), ([] : List (List Int))) = some c := by
  refine tailrec_for c.length (fun k => ((k : Int), c.take k)) c ?_ ?_
  · intro k hk
    simp only
    have hlt := hr _ (List.getElem_mem hk)
    rw [if_pos (by simpa using hk), idx_lt hk]
    simp only [Option.bind_some]
    rw [rm_le (by simp; omega)]
    simp only [Option.bind_some]
    rw [rm_le (by simp; omega)]
    simp only [Option.bind_some, List.nil_append]
    rw [w64_succ hk (by omega), List.take_succ_eq_append_getElem hk]
  · rw [if_neg (by simp), List.take_length]

theorem few_loop (raw : List (List Int)) :
    ∃ r, tailrec (fun (s31 : Int × List (List Int)) => ((if ((decide (s31.1 < (raw.length : Int))) && (decide (s31.1 < (12:Int)))) = true then (idx raw s31.1).bind fun t89 => (fTake t89 (12:Int)).bind fun t91 => (rm (s31.2.length + [t91].length)).bind fun _ => (some (.inl ((IntKind.i64.wrap (s31.1 + (1:Int))), (s31.2 ++ [t91])))) else (some (.inr s31.2))) : Option ((Int × List (List Int)) ⊕ ((List (List Int)))))) ((0:Int), ([] : List (List Int))) = some r ∧ (r.length ≤ 12 ∧ ∀ x ∈ r, x.length ≤ 12) := by
  refine loop_ex (min raw.length 12) (fun (k : Nat) (s : Int × List (List Int)) => s.1 = (k : Int) ∧ s.2.length ≤ k ∧ ∀ x ∈ s.2, x.length ≤ 12) (fun (r : List (List Int)) => r.length ≤ 12 ∧ ∀ x ∈ r, x.length ≤ 12) ⟨rfl, by simp, fun x hx => by simp at hx⟩ ?_ ?_
  · rintro k ⟨s1, s2⟩ hk ⟨e, hlen, hok⟩
    simp only at e hlen hok ⊢
    subst e
    rw [if_pos (by simp; omega), idx_lt (show k < raw.length by omega)]
    simp only [Option.bind_some]
    rw [take_is _ _ (by omega) (by omega)]
    simp only [Option.bind_some]
    rw [rm_le (by simp; omega)]
    refine ⟨_, rfl, ?_, by simp; omega, fun x hx => ?_⟩
    · simp only; rw [w64_succ (show k < 12 by omega) (by omega)]
    · rcases List.mem_append.1 hx with hx | hx
      · exact hok x hx
      · obtain rfl := List.mem_singleton.1 hx
        simp; omega
  · rintro ⟨s1, s2⟩ ⟨e, hlen, hok⟩
    simp only at e hlen hok ⊢
    subst e
    rw [if_neg (by simp; omega)]
    exact ⟨_, rfl, by omega, hok⟩

theorem rangesK (t : List (List Int)) (vs : List Int) (ht : t.length < 1000000) (htr : ∀ r ∈ t, r.length < 1000000) (T : List (List (List Int))) (i : Int) (hi : idx T i = some t) :
    tailrec (fun (s81 : Int) => ((if ((decide (s81 ≤ (vs.length : Int))) && (decide (s81 < (8:Int)))) = true then (idx T i).bind fun t117 => (sub vs (0:Int) s81).bind fun t121 => (fRange t117 t121).bind fun t122 => (idx T i).bind fun t129 => (sub vs (0:Int) s81).bind fun t133 => (fRangeR t129 t133).bind fun t134 => (if (((t122.1 != t134.1) || (t122.2.1 != t134.2.1)) || (t122.2.2 != t134.2.2)) = true then (some (.inr (.inr false))) else (some (.inl (IntKind.i64.wrap (s81 + (1:Int)))))) else (some (.inr (.inl ())))) : Option ((Int) ⊕ ((Unit) ⊕ (Bool))))) (0:Int) = some (.inl ()) := by
  refine tailrec_for (min (vs.length + 1) 8) (fun k => (k : Int)) _ ?_ ?_
  · intro k hk
    rw [if_pos (by simp; omega), hi]
    simp only [Option.bind_some]
    have hs : sub vs (0 : Int) (k : Int) = some (vs.take k) := by
      unfold sub
      rw [if_pos (by omega)]
      simp
    rw [hs]
    simp only [Option.bind_some]
    rw [range_is t _ ht (by simp; omega) htr]
    simp only [Option.bind_some]
    rw [rangeR_is t _ ht (by simp; omega)]
    simp only [Option.bind_some]
    rw [if_neg (by simp), w64_succ (n := min (vs.length + 1) 8) hk (by omega)]
  · rw [if_neg (by simp; omega)]

theorem ranges_true (l values : List Int) (a b : Int) (raw : List (List Int)) (hl : ∀ x ∈ l, I64 x) (_ : ∀ x ∈ values, I64 x) (ha : I64 a) (hb : I64 b) (_ : ∀ r ∈ raw, ∀ x ∈ r, I64 x) : fBoundsRanges l values a b raw = some true := by
  unfold fBoundsRanges
  obtain ⟨n, d, hm, _, _, _, _⟩ := made14_is l hl
  rw [hm]
  simp only [Option.bind_some]
  rw [closeR_is]
  simp only [Option.bind_some]
  generalize hc : (closeS n d).1 = c
  have hsh : c = [] ∨ ∃ m G, 1 ≤ m ∧ m ≤ 11 ∧ c = tab m G := hc ▸ closeS_shape n d
  have hrows : c.length < 1000000 ∧ ∀ r ∈ c, r.length < 1000000 := by
    rcases hsh with rfl | ⟨m, G, h1, h2, rfl⟩
    · exact ⟨by simp, fun r hr => by cases hr⟩
    · refine ⟨by rw [tab_len]; omega, fun r hr => ?_⟩
      obtain ⟨k, _, rfl⟩ := List.mem_map.1 hr
      rw [rowL_len]; omega
  rw [copy_loop c hrows.1 hrows.2]
  simp only [Option.bind_some]
  obtain ⟨few, hfew, hf1, hf2⟩ := few_loop raw
  have hbent : ∃ p, (if (decide ((c.length : Int) > (0:Int))) = true then (fAround a (c.length : Int)).bind fun t61 => (idx c t61).bind fun r110 => (fAround (IntKind.i64.wrap (Int.tdiv a (11:Int))) (c.length : Int)).bind fun t68 => (fAround b (5:Int)).bind fun t72 => (idx [b, (1099511627776:Int), (-1099511627776:Int), (1099511627777:Int), (0:Int)] t72).bind fun t73 => (setAt r110 t68 t73).bind fun t75s => (setAt c t61 t75s).bind fun m111 => (some m111) else (some c)) = some p ∧ p.length < 1000000 ∧ ∀ r ∈ p, r.length < 1000000 := by
    rcases hsh with rfl | ⟨m, G, h1, h2, rfl⟩
    · exact ⟨[], by simp, by simp, fun r hr => by cases hr⟩
    · rw [tab_len, if_pos (by simp; omega)]
      obtain ⟨x, hx, x0, x1⟩ := around_is a m ha (by omega)
      obtain ⟨y, hy, y0, y1⟩ := around_is (IntKind.i64.wrap (Int.tdiv a (11:Int))) m (w64_range _) (by omega)
      obtain ⟨z, hz, z0, z1⟩ := around_is b 5 hb (by omega)
      obtain ⟨x, rfl⟩ : ∃ k : Nat, x = (k : Int) := ⟨x.toNat, by omega⟩
      obtain ⟨y, rfl⟩ : ∃ k : Nat, y = (k : Int) := ⟨y.toNat, by omega⟩
      obtain ⟨z, rfl⟩ : ∃ k : Nat, z = (k : Int) := ⟨z.toNat, by omega⟩
      rw [hx, hy, hz]
      simp only [Option.bind_some]
      rw [tab_idx (show x < m by omega), idx_lt (show z < [b, (1099511627776:Int), (-1099511627776:Int), (1099511627777:Int), (0:Int)].length by simp; omega)]
      simp only [Option.bind_some]
      rw [rowL_set (show y < m by omega)]
      simp only [Option.bind_some]
      rw [tab_set (show x < m by omega)]
      refine ⟨_, rfl, by rw [tab_len]; omega, fun r hr => ?_⟩
      obtain ⟨k, _, rfl⟩ := List.mem_map.1 hr
      rw [rowL_len]; omega
  obtain ⟨p, hp, hp1, hp2⟩ := hbent
  rw [hp]
  simp only [Option.bind_some]
  rw [hfew]
  simp only [Option.bind_some]
  refine for_bind 4 (fun k => (k : Int)) (.inl ()) rfl ?_ (by rw [if_neg (by simp)]) ?_
  · intro k hk
    rw [if_pos (by simp; omega)]
    obtain ⟨t, hi, ht1, ht2⟩ : ∃ t, idx [c, p, few, ([] : List (List Int))] (k : Int) = some t ∧ t.length < 1000000 ∧ ∀ r ∈ t, r.length < 1000000 := by
      match k, hk with
      | 0, _ => exact ⟨c, rfl, hrows.1, hrows.2⟩
      | 1, _ => exact ⟨p, rfl, hp1, hp2⟩
      | 2, _ => exact ⟨few, rfl, by omega, fun r hr => Nat.lt_of_le_of_lt (hf2 r hr) (by omega)⟩
      | 3, _ => exact ⟨[], rfl, by simp, fun r hr => by cases hr⟩
    rw [rangesK t values ht1 ht2 _ _ hi]
    simp only [Option.bind_some]
    rw [w64_succ hk (by omega)]
  · simp only
    rw [lives14_is]
    rfl

end Go.Proofs.Ytjniiejgccdhiaa
