/- The laws' own made lists; package ratio's Make; distances. No condition. -/
import Derived.Test.YtjniiejgccdhiaaLearnC
namespace Go.Proofs.Ytjniiejgccdhiaa
open Go.Sim

theorem sum_pos_of {l : List Int} {B : Int} (h : Sm l B) {x : Int} (hx : x ∈ l) (h0 : 0 < x) : 0 < l.sum := by
  induction l with
  | nil => cases hx
  | cons y l ih =>
    have h1 := h y (by simp)
    have h2 : Sm l B := fun z hz => h z (by simp [hz])
    simp only [List.sum_cons]
    rcases List.mem_cons.1 hx with e | e
    · subst e; have := h2.sum.1; omega
    · have := ih h2 e; omega

theorem made_is (l : List Int) (n : Nat) (most : Int) (hl : ∀ x ∈ l, I64 x) (hn : 1 ≤ n) (hn2 : n ≤ 20) (hm : 2 ≤ most) (hm2 : most ≤ 100) :
    ∃ m, fMade27 l (n : Int) most = some m ∧ m.length = n ∧ Sm m (most - 1) ∧ 0 < m.sum := by
  unfold fMade27
  obtain ⟨m, h1, h2, h3⟩ : ∃ r, tailrec (fun (s9 : Int × List Int) => ((if (decide (s9.1 < (n : Int))) = true then (fAt l s9.1 most).bind fun t18 => (rm (s9.2.length + [t18].length)).bind fun u20 => (some (.inl ((IntKind.i64.wrap (s9.1 + (1:Int))), (s9.2 ++ [t18])))) else (some (.inr s9.2))) : Option ((Int × List Int) ⊕ ((List Int))))) ((0:Int), ([] : List Int)) = some r ∧ r.length = n ∧ Sm r (most - 1) := by
    refine loop_ex n (fun k s => s.1 = (k : Int) ∧ s.2.length = k ∧ Sm s.2 (most - 1)) (fun r => r.length = n ∧ Sm r (most - 1)) ?_ ?_ ?_
    · exact ⟨rfl, rfl, fun x hx => by cases hx⟩
    · rintro k ⟨s1, s2⟩ hk ⟨e1, e2, e3⟩
      simp only at e1 e2 e3
      subst e1
      obtain ⟨r, g1, g2, g3⟩ := at_is l k most hl (by omega)
      refine ⟨(((k + 1 : Nat) : Int), s2 ++ [r]), ?_, rfl, by simp [e2], fun x hx => ?_⟩
      · simp only
        rw [if_pos (by simpa using hk), g1]
        simp only [Option.bind_some]
        rw [rm_le (by simp; omega)]
        simp only [Option.bind_some]
        rw [w64_succ hk (by omega)]
      · rcases List.mem_append.1 hx with h | h
        · exact e3 x h
        · simp at h; subst h; omega
    · rintro ⟨s1, s2⟩ ⟨e1, e2, e3⟩
      simp only at e1 e2 e3
      subst e1
      exact ⟨s2, by simp only; rw [if_neg (by simp)], e2, e3⟩
  rw [h1]
  simp only [Option.bind_some]
  rw [sumR_is (by omega) h3 (by omega) (by omega)]
  simp only [Option.bind_some]
  by_cases hz : m.sum = 0
  · rw [if_pos (by simp [hz]; omega)]
    obtain ⟨r, g1, g2, g3⟩ := at_is l 0 n hl (by omega)
    rw [g1]
    simp only [Option.bind_some]
    have hr : r = ((r.toNat : Nat) : Int) := (Int.toNat_of_nonneg g2).symm
    have hlt : r.toNat < m.length := by omega
    rw [hr, setAt_lt hlt]
    simp only [Option.bind_some]
    have hS : Sm (m.set r.toNat 1) (most - 1) := by
      intro x hx
      rcases List.mem_or_eq_of_mem_set hx with h | h
      · exact h3 x h
      · subst h; omega
    exact ⟨_, rfl, by simp [h2], hS, sum_pos_of hS (List.mem_set hlt 1) (by omega)⟩
  · rw [if_neg (by simp [hz])]
    have := h3.sum.1
    exact ⟨m, rfl, h2, h3, by omega⟩

theorem odd_is (l : List Int) (at_ by_ : Int) (hl : l.length ≤ 1000) (ha : I64 at_) (hb : I64 by_) : ∃ o, fodd l at_ by_ = some o ∧ o.length ≤ 1001 := by
  unfold fodd
  rw [rm_le (by simp; omega)]
  simp only [Option.bind_some, List.nil_append]
  by_cases hc : ((((l.length : Nat) : Int) == (0:Int)) || ((Int.tmod by_ (3:Int)) == (0:Int))) = true
  · rw [if_pos hc, rm_le (by simp; omega)]
    exact ⟨_, rfl, by simp; omega⟩
  · rw [if_neg hc]
    have h0 : 0 < l.length := by
      simp only [Bool.or_eq_true, beq_iff_eq, not_or] at hc
      omega
    obtain ⟨r, g1, g2, g3⟩ := around_is at_ l.length ha (by omega)
    obtain ⟨q, k1, k2, k3⟩ := around_is by_ 6 hb (by omega)
    rw [g1]
    simp only [Option.bind_some]
    rw [k1]
    simp only [Option.bind_some]
    rw [idx_int _ k2]
    have hq : q.toNat < 6 := by omega
    rw [List.getElem?_eq_getElem (by simpa using hq)]
    simp only [Option.bind_some]
    rw [show r = ((r.toNat : Nat) : Int) from (Int.toNat_of_nonneg g2).symm, setAt_lt (by omega)]
    exact ⟨_, rfl, by simp; omega⟩

theorem take_is (l : List Int) (most : Int) (h0 : 0 ≤ most) (h1 : most ≤ 1000) : ∃ o, fTake l most = some o ∧ o.length ≤ 1000 := by
  unfold fTake
  have hm : 0 ≤ imin (l.length : Int) most ∧ imin (l.length : Int) most ≤ l.length ∧ imin (l.length : Int) most ≤ 1000 := by
    unfold imin; split <;> omega
  unfold sub
  rw [if_pos ⟨by omega, by omega, by omega⟩]
  simp only [Option.bind_some]
  have hlen : ((List.drop (0 : Int).toNat l).take ((imin (l.length : Int) most).toNat - (0 : Int).toNat)).length ≤ 1000 := by
    rw [List.length_take]; omega
  rw [rm_le (by simp only [List.length_nil]; omega)]
  exact ⟨_, rfl, by simpa using hlen⟩

/-! Fractions -/

/-- A fraction in lowest terms. -/
def mkR (p q : Nat) : SRatio := ⟨((p / Nat.gcd p q : Nat) : Int), ((q / Nat.gcd p q : Nat) : Int)⟩
theorem u64_quo {x g : Nat} (hx : x ≤ 9223372036854775807) : IntKind.u64.wrap (Int.tdiv (x : Int) (g : Int)) = ((x / g : Nat) : Int) := by
  rw [Int.tdiv_eq_ediv_of_nonneg (by omega), IntKind.wrap_u64, ← Int.natCast_ediv]
  have := Nat.div_le_self x g
  generalize x / g = y at this ⊢
  omega
theorem make_is (p q : Nat) (hp : p ≤ 1000000000000000000) (hq0 : 0 < q) (hq : q ≤ 1000000000000000000) :
    fMake p q = some (if ((p / Nat.gcd p q : Nat) : Int) > 2147483648 ∨ ((q / Nat.gcd p q : Nat) : Int) > 2147483648 then (⟨0, 0⟩, 5) else (mkR p q, 0)) := by
  unfold fMake
  have hg : 0 < Nat.gcd p q := Nat.gcd_pos_of_pos_right _ hq0
  rw [if_neg (by simp; omega), size_is (by unfold I64; omega), size_is (by unfold I64; omega)]
  simp only [Option.bind_some, Int.natAbs_natCast]
  rw [gcdU_nat]
  simp only [Option.bind_some]
  rw [nz_of (by omega)]
  simp only [Option.bind_some]
  rw [u64_quo (by omega), u64_quo (by omega)]
  unfold mkR
  generalize p / Nat.gcd p q = x
  generalize q / Nat.gcd p q = y
  by_cases hb : (x : Int) > 2147483648 ∨ (y : Int) > 2147483648
  · rw [if_pos (by simpa using hb), if_pos hb]
  · rw [if_neg (by simpa using hb), if_neg hb]
    have e : (decide ((p : Int) < 0) != decide ((q : Int) < 0)) = false := by
      have h1 : decide ((p : Int) < 0) = false := decide_eq_false (by omega)
      have h2 : decide ((q : Int) < 0) = false := decide_eq_false (by omega)
      rw [h1, h2]; rfl
    rw [e, if_neg (by simp), w64 (by omega) (by omega), w64 (by omega) (by omega)]
    rfl
theorem make_small (p q : Nat) (hp : p ≤ 2147483648) (hq0 : 0 < q) (hq : q ≤ 2147483648) : fMake p q = some (mkR p q, 0) := by
  have h1 := Nat.div_le_self p (Nat.gcd p q)
  have h2 := Nat.div_le_self q (Nat.gcd p q)
  rw [make_is p q (by omega) hq0 (by omega), if_neg]
  generalize p / Nat.gcd p q = x at h1 ⊢
  generalize q / Nat.gcd p q = y at h2 ⊢
  omega
theorem mkR_valid {p q : Nat} (hp : p ≤ 2147483648) (hq0 : 0 < q) (hq : q ≤ 2147483648) : va (mkR p q) = true := by
  have h1 := Nat.div_le_self p (Nat.gcd p q)
  have h2 := Nat.div_le_self q (Nat.gcd p q)
  have hg : 0 < Nat.gcd p q := Nat.gcd_pos_of_pos_right _ hq0
  have h3 : 0 < q / Nat.gcd p q := Nat.div_pos (Nat.le_of_dvd hq0 (Nat.gcd_dvd_right _ _)) hg
  unfold va vb mkR
  simp only [Int.natAbs_natCast]
  rw [Nat.gcd_div_gcd_div_gcd_of_pos_right hq0]
  generalize p / Nat.gcd p q = x at h1 ⊢
  generalize q / Nat.gcd p q = y at h2 h3 ⊢
  have e1 : decide ((y : Int) ≥ 1) = true := decide_eq_true (by omega)
  have e2 : decide ((y : Int) ≤ 2147483648) = true := decide_eq_true (by omega)
  have e3 : decide ((x : Int) ≥ -2147483648) = true := decide_eq_true (by omega)
  have e4 : decide ((x : Int) ≤ 2147483648) = true := decide_eq_true (by omega)
  rw [e1, e2, e3, e4]
  simp
theorem mkR_cross (p q : Nat) (hq0 : 0 < q) : (mkR p q).P * q = p * (mkR p q).Q ∧ 0 < (mkR p q).Q ∧ 0 ≤ (mkR p q).P := by
  have hg : 0 < Nat.gcd p q := Nat.gcd_pos_of_pos_right _ hq0
  obtain ⟨x, hx⟩ := Nat.gcd_dvd_left p q
  obtain ⟨y, hy⟩ := Nat.gcd_dvd_right p q
  have e1 : p / Nat.gcd p q = x := by conv => lhs; lhs; rw [hx]
                                      exact Nat.mul_div_cancel_left _ hg
  have e2 : q / Nat.gcd p q = y := by conv => lhs; lhs; rw [hy]
                                      exact Nat.mul_div_cancel_left _ hg
  have hy0 : 0 < y := by
    rcases Nat.eq_zero_or_pos y with h | h
    · subst h; omega
    · exact h
  unfold mkR
  rw [e1, e2]
  refine ⟨?_, by simp only; omega, by simp only; omega⟩
  have : x * q = p * y := by
    conv => lhs; rw [hy]
    conv => rhs; rw [hx]
    rw [Nat.mul_comm x, Nat.mul_comm (Nat.gcd p q) x, Nat.mul_assoc, Nat.mul_assoc, Nat.mul_comm y x, Nat.mul_left_comm]
  show (x : Int) * q = p * y
  exact_mod_cast this

end Go.Proofs.Ytjniiejgccdhiaa
