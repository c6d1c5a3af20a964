/- Package learn: weights. No condition. -/
import Derived.Test.YtjniiejgccdhiaaLearnA
namespace Go.Proofs.Ytjniiejgccdhiaa
open Go.Sim

theorem sameInts_is (a b : List Int) (ha : a.length < 1000000) : fSameInts a b = some (decide (a = b)) := by
  unfold fSameInts
  by_cases hl : a.length = b.length
  · rw [if_neg (by simp [hl])]
    refine scan_bind a.length (fun k => a.getD k 0 != b.getD k 0) (.inl ()) (fun _ => .inr false) ?_ ?_ ?_ ?_ ?_
    · intro k hk hp
      have hk' : k < b.length := by omega
      rw [List.getD_eq_getElem?_getD, List.getElem?_eq_getElem hk, List.getD_eq_getElem?_getD, List.getElem?_eq_getElem hk'] at hp
      simp only [Option.getD_some, bne_eq_false_iff_eq] at hp
      rw [if_pos (by simpa using hk), idx_lt hk, idx_lt hk']
      simp only [Option.bind_some]
      rw [if_neg (by simpa using hp), w64_succ hk (by omega)]
    · intro k hk hp
      have hk' : k < b.length := by omega
      rw [List.getD_eq_getElem?_getD, List.getElem?_eq_getElem hk, List.getD_eq_getElem?_getD, List.getElem?_eq_getElem hk'] at hp
      simp only [Option.getD_some] at hp
      rw [if_pos (by simpa using hk), idx_lt hk, idx_lt hk']
      simp only [Option.bind_some]
      rw [if_pos hp]
    · rw [if_neg (by simp)]
    · intro hp
      have : a = b := by
        apply List.ext_getElem hl
        intro k h1 h2
        have := hp k h1
        rw [List.getD_eq_getElem?_getD, List.getElem?_eq_getElem h1, List.getD_eq_getElem?_getD, List.getElem?_eq_getElem h2] at this
        simpa using this
      simp [this]
    · intro k hk hp
      have : a ≠ b := by
        rintro rfl
        simp at hp
      simp [this]
  · rw [if_pos (by simp; omega)]
    have : a ≠ b := by rintro rfl; exact hl rfl
    simp [this]

theorem clone_is (l : List Int) (hl : l.length ≤ 1000000) : fClone l = some l := by
  unfold fClone
  rw [rm_le (by simp; omega)]
  rfl

theorem low_get {l : List Int} {k : Nat} (h : k < l.length) : (low l)[k]'(by rw [low_len]; exact h) = l[k] / ((max (lg l) 1 : Nat) : Int) := by simp [low]
theorem low_one {l : List Int} (h : lg l ≤ 1) : low l = l := by
  unfold low
  rw [show max (lg l) 1 = 1 by omega]
  simp
theorem wrap_quo {x g : Int} (h : 0 ≤ x) (hx : x ≤ 9223372036854775807) (hg : 0 < g) : IntKind.i64.wrap (Int.tdiv x g) = x / g := by
  rw [Int.tdiv_eq_ediv_of_nonneg h, w64]
  · have := Int.ediv_nonneg h (Int.le_of_lt hg); omega
  · have := Int.ediv_le_self g h; omega

theorem lowest_is {l : List Int} {B : Int} (h : Sm l B) (hB : B ≤ 9000000000000000000) (hl : l.length < 1000000) : flowest l = some (low l) := by
  unfold flowest
  rw [clone_is l (by omega), gcd_is h hl]
  simp only [Option.bind_some]
  by_cases hg : 1 < lg l
  · rw [if_pos (by simp; omega)]
    have e1 : max (lg l) 1 = lg l := by omega
    have key : (tailrec (fun (s44 : Int × List Int) => ((if (decide (s44.1 < (l.length : Int))) = true then (idx s44.2 s44.1).bind fun t19 => (nz ((lg l : Nat) : Int)).bind fun u22 => (setAt s44.2 s44.1 (IntKind.i64.wrap (Int.tdiv t19 ((lg l : Nat) : Int)))).bind fun t23s => (some (.inl ((IntKind.i64.wrap (s44.1 + (1:Int))), t23s))) else (some (.inr s44.2))) : Option ((Int × List Int) ⊕ ((List Int))))) ((0:Int), l)) = some (low l) := by
      have := for_bind (body := (fun (s44 : Int × List Int) => ((if (decide (s44.1 < (l.length : Int))) = true then (idx s44.2 s44.1).bind fun t19 => (nz ((lg l : Nat) : Int)).bind fun u22 => (setAt s44.2 s44.1 (IntKind.i64.wrap (Int.tdiv t19 ((lg l : Nat) : Int)))).bind fun t23s => (some (.inl ((IntKind.i64.wrap (s44.1 + (1:Int))), t23s))) else (some (.inr s44.2))) : Option ((Int × List Int) ⊕ ((List Int))))))
        (g := some) (out := some (low l)) (s0 := ((0:Int), l)) l.length (fun k => ((k : Int), (low l).take k ++ l.drop k)) (low l) (by simp) ?_ ?_ rfl
      · simpa using this
      · intro k hk
        have hk' : k < (low l).length := by rw [low_len]; exact hk
        have hm := h _ (List.getElem_mem hk)
        simp only
        rw [if_pos (by simpa using hk), idx_nat, fill_get _ _ hk' hk, nz_of (by omega)]
        simp only [Option.bind_some]
        rw [setAt_lt (by rw [fill_len _ _ (low_len l)]; exact hk)]
        have e : IntKind.i64.wrap (Int.tdiv l[k] ((lg l : Nat) : Int)) = (low l)[k] := by
          rw [low_get hk, e1, wrap_quo hm.1 (by omega) (by omega)]
        rw [e, fill_set _ _ hk' hk]
        simp only [Option.bind_some]
        rw [w64_succ hk (by omega)]
      · simp only
        rw [if_neg (by simp)]
        rw [← low_len l, List.take_length, low_len, List.drop_length, List.append_nil]
    rw [key]; rfl
  · rw [if_neg (by simp; omega), low_one (by omega)]; rfl

theorem lowestR_is {l : List Int} {B : Int} (h : Sm l B) (hB : B ≤ 9000000000000000000) (hl : l.length < 1000000) : fLowestR l = some (low l) := by
  unfold fLowestR
  refine for_bind l.length (fun k => ((k : Int), ((lg (l.take k) : Nat) : Int)) : Nat → Int × Int) ((lg l : Nat) : Int) (by simp [lg]) ?_ ?_ ?_
  · intro k hk
    simp only
    rw [if_pos (by simpa using hk), idx_lt hk]
    have e : l[k] = ((l[k].toNat : Nat) : Int) := (Int.toNat_of_nonneg (h _ (List.getElem_mem hk)).1).symm
    simp only [Option.bind_some]
    rw [lg_take_succ l hk]
    rw [e, gcdR_nat]
    simp only [Option.bind_some, Option.some.injEq, Sum.inl.injEq, Prod.mk.injEq]
    exact ⟨w64_succ hk (by omega), by rw [Int.toNat_natCast, Nat.gcd_comm]⟩
  · simp
  · have em : imax ((lg l : Nat) : Int) 1 = ((max (lg l) 1 : Nat) : Int) := by unfold imax; split <;> omega
    refine for_bind l.length (fun k => ((k : Int), (low l).take k) : Nat → Int × List Int) (low l) (by simp) ?_ ?_ rfl
    · intro k hk
      have hk' : k < (low l).length := by rw [low_len]; exact hk
      have hm := h _ (List.getElem_mem hk)
      simp only
      rw [if_pos (by simpa using hk), idx_lt hk, em]
      simp only [Option.bind_some]
      rw [nz_of (by omega)]
      simp only [Option.bind_some]
      rw [rm_le (by simp; omega)]
      simp only [Option.bind_some, Option.some.injEq, Sum.inl.injEq, Prod.mk.injEq]
      refine ⟨w64_succ hk (by omega), ?_⟩
      rw [List.take_succ_eq_append_getElem hk', low_get hk, wrap_quo hm.1 (by omega) (by omega)]
    · simp only
      rw [if_neg (by simp), ← low_len l, List.take_length]

def weS (c : List Int) (s : Int) : List Int × Int :=
  if (((!wi c 524288) || decide (s < 0)) || decide (s > 1024)) = true then ([], 5)
  else if (c.map (· + s)).sum == 0 then ([], 5) else (low (c.map (· + s)), 0)

theorem sm_add {c : List Int} {B s : Int} (h : Sm c B) (h0 : 0 ≤ s) {C : Int} (hs : B + s ≤ C) : Sm (c.map (· + s)) C := by
  intro x hx
  obtain ⟨y, hy, rfl⟩ := List.mem_map.1 hx
  have := h y hy
  constructor <;> omega

theorem weights_is (c : List Int) (s : Int) (hc : c.length < 1000000) : fWeights c s = some (weS c s) := by
  unfold fWeights weS
  rw [within_is c _ hc]
  simp only [Option.bind_some]
  by_cases hb : (((!wi c 524288) || decide (s < 0)) || decide (s > 1024)) = true
  · rw [if_pos hb, if_pos hb]
  · rw [if_neg hb, if_neg hb]
    simp only [Bool.or_eq_true, Bool.not_eq_true', decide_eq_true_eq, not_or, Bool.not_eq_false] at hb
    obtain ⟨⟨hw, h0⟩, h1⟩ := hb
    obtain ⟨_, hl, hsm⟩ := wi_iff.1 hw
    have hd : Sm (c.map (· + s)) 600000 := sm_add hsm (by omega) (by omega)
    have hdl : (c.map (· + s)).length = c.length := by simp
    rw [clone_is c (by omega)]
    simp only [Option.bind_some]
    refine for_bind c.length (fun k => ((k : Int), (c.map (· + s)).take k ++ c.drop k) : Nat → Int × List Int) (c.map (· + s)) (by simp) ?_ ?_ ?_
    · intro k hk
      have hk' : k < (c.map (· + s)).length := by rw [hdl]; exact hk
      have hm := hsm _ (List.getElem_mem hk)
      simp only
      rw [if_pos (by simpa using hk), idx_nat, fill_get _ _ hk' hk]
      simp only [Option.bind_some]
      rw [setAt_lt (by rw [fill_len _ _ hdl]; exact hk)]
      have e : IntKind.i64.wrap (c[k] + s) = (c.map (· + s))[k] := by rw [w64 (by omega) (by omega)]; simp
      rw [e, fill_set _ _ hk' hk]
      simp only [Option.bind_some]
      rw [w64_succ hk (by omega)]
    · simp only
      rw [if_neg (by simp)]
      rw [← hdl, List.take_length, hdl, List.drop_length, List.append_nil]
    · rw [sum_is (by rw [hdl]; omega) hd (by omega) (by omega), lowest_is hd (by omega) (by rw [hdl]; omega)]
      simp only [Option.bind_some]
      split <;> rfl
theorem weightsR_is (c : List Int) (s : Int) (hc : c.length < 1000000) : fWeightsR c s = some (weS c s) := by
  unfold fWeightsR weS
  rw [withinR_is c _ hc]
  simp only [Option.bind_some]
  by_cases hb : (((!wi c 524288) || decide (s < 0)) || decide (s > 1024)) = true
  · rw [if_pos hb, if_pos hb]
  · rw [if_neg hb, if_neg hb]
    simp only [Bool.or_eq_true, Bool.not_eq_true', decide_eq_true_eq, not_or, Bool.not_eq_false] at hb
    obtain ⟨⟨hw, h0⟩, h1⟩ := hb
    obtain ⟨_, hl, hsm⟩ := wi_iff.1 hw
    have hd : Sm (c.map (· + s)) 600000 := sm_add hsm (by omega) (by omega)
    have hdl : (c.map (· + s)).length = c.length := by simp
    refine for_bind c.length (fun k => ((k : Int), (c.map (· + s)).take k) : Nat → Int × List Int) (c.map (· + s)) (by simp) ?_ ?_ ?_
    · intro k hk
      have hk' : k < (c.map (· + s)).length := by rw [hdl]; exact hk
      have hm := hsm _ (List.getElem_mem hk)
      simp only
      rw [if_pos (by simpa using hk), idx_lt hk]
      simp only [Option.bind_some]
      rw [rm_le (by simp; omega)]
      simp only [Option.bind_some, Option.some.injEq, Sum.inl.injEq, Prod.mk.injEq]
      refine ⟨w64_succ hk (by omega), ?_⟩
      rw [List.take_succ_eq_append_getElem hk', w64 (by omega) (by omega)]; simp
    · simp only
      rw [if_neg (by simp), ← hdl, List.take_length]
    · rw [sumR_is (by rw [hdl]; omega) hd (by omega) (by omega), lowestR_is hd (by omega) (by rw [hdl]; omega)]
      simp only [Option.bind_some]
      split <;> rfl

def ri (l : List Int) : Bool := wi l 1048576 && decide (0 < l.sum)
theorem rightR_is (l : List Int) (hl : l.length < 1000000) : fRightR l = some (ri l) := by
  unfold fRightR ri
  rw [withinR_is l _ hl]
  simp only [Option.bind_some]
  cases hw : wi l 1048576 with
  | false => rfl
  | true =>
    obtain ⟨_, h1, h2⟩ := wi_iff.1 hw
    rw [sumR_is (by omega) h2 (by omega) (by omega)]
    simp
theorem right_is (l : List Int) (hl : l.length < 1000000) : fright l = some (ri l) := by
  unfold fright ri
  rw [within_is l _ hl]
  simp only [Option.bind_some]
  cases hw : wi l 1048576 with
  | false => rfl
  | true =>
    obtain ⟨_, h1, h2⟩ := wi_iff.1 hw
    rw [sum_is (by omega) h2 (by omega) (by omega)]
    simp [opt_true]
theorem weS_right (c : List Int) (s : Int) (h : (weS c s).2 = 0) : ri (weS c s).1 = true := by
  unfold weS at h ⊢
  split at h
  · cases h
  · rename_i hb
    rw [if_neg hb]
    split at h
    · cases h
    · rename_i hz
      rw [if_neg hz]
      simp only [Bool.or_eq_true, Bool.not_eq_true', decide_eq_true_eq, not_or, Bool.not_eq_false] at hb
      obtain ⟨⟨hw, h0⟩, h1⟩ := hb
      obtain ⟨hl1, hl, hsm⟩ := wi_iff.1 hw
      have hd : Sm (c.map (· + s)) 600000 := sm_add hsm (by omega) (by omega)
      have hs : 0 < (c.map (· + s)).sum := by
        have := hd.sum.1
        simp only [beq_iff_eq] at hz
        omega
      unfold ri
      rw [Bool.and_eq_true, wi_iff, low_len]
      refine ⟨⟨by simpa using hl1, by simpa using hl, (low_sm hd).mono (by omega)⟩, by simpa using low_pos hd hs⟩

end Go.Proofs.Ytjniiejgccdhiaa
