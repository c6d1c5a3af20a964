/- Package learn's three laws hold of the Lean functions. No condition. -/
import Derived.Test.YtjniiejgccdhiaaLearnE
namespace Go.Proofs.Ytjniiejgccdhiaa
open Go.Sim

theorem lives_is : flives27 = some true := by
  have r1 : ri [1, 0] = true := by kernel_rfl
  have r2 : ri [1, 3] = true := by kernel_rfl
  have r3 : ri [5, 3] = true := by kernel_rfl
  obtain ⟨x, hx, _, _, _, _, _, _, ex⟩ := far_is [1, 0] [1, 3] r1 r2 rfl (by decide)
  obtain ⟨y, hy, _, _, _, _, _, _, ey⟩ := far_is [1, 0] [5, 3] r1 r3 rfl (by decide)
  have e1 : weS [4, 0, 6] 0 = ([2, 0, 3], 0) := by kernel_rfl
  have e2 : weS [4, 0, 6] 1 = ([5, 1, 7], 0) := by kernel_rfl
  have e3 : blS [1, 0] [1, 3] ⟨1, 2⟩ = ([5, 3], 0) := by kernel_rfl
  have e4 : farR [1, 0] [1, 3] = ⟨3, 4⟩ := by kernel_rfl
  have e5 : farR [1, 0] [5, 3] = ⟨3, 8⟩ := by kernel_rfl
  unfold flives27
  rw [weights_is _ _ (by decide), weights_is _ _ (by decide), blend_is _ _ _ (by decide) (by decide), hx, hy, ex, ey, e1, e2, e3, e4, e5]
  simp only [Option.bind_some]
  rw [sameInts_is _ _ (by decide), sameInts_is _ _ (by decide), sameInts_is _ _ (by decide)]
  rfl

theorem idx6 {α : Type} {a b c d e f : α} {k : Nat} (h : k < 6) : ∃ x, idx [a, b, c, d, e, f] (k : Int) = some x ∧ x ∈ [a, b, c, d, e, f] := by
  rw [idx_nat, List.getElem?_eq_getElem (by simpa using h)]
  exact ⟨_, rfl, List.getElem_mem _⟩

theorem weS0 {c : List Int} (h : Sm c 524288) (l1 : 1 ≤ c.length) (l12 : c.length ≤ 12) (hp : 0 < c.sum) : weS c 0 = (low c, 0) := by
  unfold weS
  have hw : wi c 524288 = true := wi_iff.2 ⟨l1, l12, h⟩
  have e : c.map (· + 0) = c := by simp
  rw [hw, e, if_neg (by decide), if_neg (by simp; omega)]
theorem learnWeights_true (l : List Int) (n smooth at_ by_ times : Int) (hl : ∀ x ∈ l, I64 x) (hn : I64 n) (hs : I64 smooth) (ha : I64 at_) (hb : I64 by_) (ht : I64 times) : fLearnWeights l n smooth at_ by_ times = some true := by
  unfold fLearnWeights
  obtain ⟨r, hr, r0, r1⟩ := around_is n 12 hn (by omega)
  rw [hr]
  simp only [Option.bind_some]
  rw [w64 (n := 1 + r) (by omega) (by omega)]
  obtain ⟨k, hk⟩ : ∃ k : Nat, 1 + r = (k : Int) := ⟨_, (Int.toNat_of_nonneg (by omega)).symm⟩
  rw [hk]
  obtain ⟨m, hm, ml, ms, mp⟩ := made_is l k 30 hl (by omega) (by omega) (by omega) (by omega)
  rw [hm]
  simp only [Option.bind_some]
  obtain ⟨o, ho, ol⟩ := odd_is m at_ by_ (by omega) ha hb
  rw [ho]
  simp only [Option.bind_some]
  rw [show (3 : Int) = ((3 : Nat) : Int) from rfl, show (13 : Int) = ((13 : Nat) : Int) from rfl, mk_nat _ _ (by omega), mk_nat _ _ (by omega)]
  simp only [Option.bind_some]
  obtain ⟨tk, htk, tkl⟩ := take_is l 14 (by omega) (by omega)
  rw [htk]
  simp only [Option.bind_some]
  obtain ⟨sm, hsm, _, _⟩ := around_is smooth 5 hs (by omega)
  rw [hsm]
  simp only [Option.bind_some]
  refine for_bind 6 (fun k => (k : Int)) (.inl ()) rfl ?_ (by rfl) ?_
  · intro i hi
    rw [if_pos (by simp; omega)]
    refine for_bind 4 (fun k => (k : Int)) (.inl ()) rfl ?_ (by rfl) ?_
    · intro j hj
      rw [if_pos (by simp; omega)]
      obtain ⟨x, hx, hxm⟩ := idx6 (a := m) (b := o) (c := List.replicate 3 (0:Int)) (d := []) (e := List.replicate 13 (0:Int)) (f := tk) hi
      obtain ⟨s, hs'⟩ : ∃ s, idx [sm, smooth, (1024:Int), (1025:Int)] (j : Int) = some s := by
        rw [idx_nat, List.getElem?_eq_getElem (by simpa using hj)]
        exact ⟨_, rfl⟩
      have hxl : x.length < 1000000 := by
        simp only [List.mem_cons, List.not_mem_nil, or_false] at hxm
        rcases hxm with h | h | h | h | h | h <;> subst h <;> (try simp only [List.length_replicate, List.length_nil]) <;> omega
      rw [hx, hs']
      simp only [Option.bind_some]
      rw [weights_is x s hxl, weightsR_is x s hxl]
      simp only [Option.bind_some]
      have hwl : (weS x s).1.length < 1000000 := by
        unfold weS
        split
        · simp
        · split
          · simp
          · simpa [low_len] using hxl
      rw [sameInts_is _ _ hwl, rightR_is _ hwl]
      simp only [bne_self_eq_false, beq_self_eq_true, opt_true, Option.bind_some, decide_true, Bool.not_true, Bool.false_or, Bool.true_and]
      cases he : ((weS x s).2 == 0) with
      | false =>
        simp only [Bool.false_and]
        rw [show ((false == true) = false) from rfl, opt_false]
        simp only [Option.bind_some]
        rw [if_neg (by simp), w64_succ (n := 4) hj (by omega)]
      | true =>
        rw [beq_self_eq_true, opt_true]
        simp only [Option.bind_some]
        rw [weS_right x s (by simpa using he), if_neg (by simp), w64_succ (n := 4) hj (by omega)]
    · simp only
      rw [w64_succ (n := 6) hi (by omega)]
  · simp only
    obtain ⟨t, hT, t0, t1⟩ := around_is times 50 ht (by omega)
    refine for_bind m.length (fun k => ((k : Int), (m.map (· * (1 + t))).take k) : Nat → Int × List Int) (m.map (· * (1 + t))) (by simp) ?_ ?_ ?_
    · intro i hi
      have hi' : i < (m.map (· * (1 + t))).length := by simpa using hi
      have hm' := ms _ (List.getElem_mem hi)
      have hb := mul_bound hm' (y := 1 + t) (Y := 50) ⟨by omega, by omega⟩
      simp only
      rw [if_pos (by simpa using hi), idx_lt hi, hT]
      simp only [Option.bind_some]
      rw [w64 (n := 1 + t) (by omega) (by omega), w64 (n := m[i] * (1 + t)) (by omega) (by omega), rm_le (by simp; omega)]
      simp only [Option.bind_some]
      rw [w64_succ hi (by omega), List.take_succ_eq_append_getElem hi']
      simp
    · simp only
      rw [if_neg (by simp)]
      have : (m.map (· * (1 + t))).length = m.length := by simp
      rw [← this, List.take_length]
    · have hm2 : Sm (m.map (· * (1 + t))) 524288 := by
        intro z hz
        obtain ⟨y, hy, rfl⟩ := List.mem_map.1 hz
        have := mul_bound (ms y hy) (y := 1 + t) (Y := 50) ⟨by omega, by omega⟩
        omega
      have hp2 : 0 < (m.map (· * (1 + t))).sum := by
        have hpos : ∃ x ∈ m, 0 < x := by
          refine Classical.byContradiction fun hno => ?_
          have : Sm m 0 := fun x hx => ⟨(ms x hx).1, Int.not_lt.1 fun h => hno ⟨x, hx, h⟩⟩
          have := this.sum.2
          omega
        obtain ⟨x, hx, h0⟩ := hpos
        exact sum_pos_of hm2 (List.mem_map.2 ⟨x, hx, rfl⟩) (Int.mul_pos h0 (by omega))
      rw [weights_is m 0 (by omega), weights_is _ 0 (by simp; omega), weS0 (ms.mono (by omega)) (by omega) (by omega) mp, weS0 hm2 (by simp; omega) (by simp; omega) hp2, low_mul ms mp (by omega)]
      simp only [Option.bind_some, beq_self_eq_true, Bool.and_self, opt_true]
      rw [sameInts_is _ _ (by rw [low_len]; omega), lives_is]
      simp [opt_true]

end Go.Proofs.Ytjniiejgccdhiaa
