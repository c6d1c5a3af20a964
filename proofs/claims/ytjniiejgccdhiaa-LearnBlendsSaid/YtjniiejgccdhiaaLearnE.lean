/- Distances of weights. No condition. -/
import Derived.Test.YtjniiejgccdhiaaLearnD
namespace Go.Proofs.Ytjniiejgccdhiaa
open Go.Sim

def dE (A B : Int) (x y : Int) : Int := (((x * B - y * A).natAbs : Nat) : Int)
def dL (a b : List Int) (A B : Int) : List Int := List.zipWith (dE A B) a b
theorem imax_abs (u v : Int) (h : v = -u) : imax u v = ((u.natAbs : Nat) : Int) := by unfold imax; split <;> omega
theorem dL_sum_le {a b : List Int} {A B C : Int} (ha : Sm a C) (hb : Sm b C) (hA : 0 ≤ A) (hB : 0 ≤ B) : 0 ≤ (dL a b A B).sum ∧ (dL a b A B).sum ≤ a.sum * B + b.sum * A := by
  induction a generalizing b with
  | nil => have := Int.mul_nonneg hb.sum.1 hA; simp [dL]; omega
  | cons x a ih =>
    cases b with
    | nil => have := Int.mul_nonneg ha.sum.1 hB; simp [dL] at this ⊢; omega
    | cons y b =>
      have h1 := ih (b := b) (fun z hz => ha z (by simp [hz])) (fun z hz => hb z (by simp [hz]))
      have hx := Int.mul_nonneg (ha x (by simp)).1 hB
      have hy := Int.mul_nonneg (hb y (by simp)).1 hA
      simp only [dL, List.zipWith_cons_cons, List.sum_cons, Int.add_mul] at h1 ⊢
      unfold dE at h1 ⊢
      constructor <;> omega
theorem dL_sm {a b : List Int} {A B : Int} (ha : Sm a 1048576) (hb : Sm b 1048576) (hA : 0 ≤ A ∧ A ≤ 12582912) (hB : 0 ≤ B ∧ B ≤ 12582912) : Sm (dL a b A B) 13194139533312 := by
  intro z hz
  obtain ⟨k, hk, rfl⟩ := List.getElem_of_mem hz
  have h1 : k < a.length := by simp [dL] at hk; omega
  have h2 : k < b.length := by simp [dL] at hk; omega
  have e1 := mul_bound (ha _ (List.getElem_mem h1)) hB
  have e2 := mul_bound (hb _ (List.getElem_mem h2)) hA
  simp only [dL, List.getElem_zipWith, dE]
  omega

theorem sum_le12 {a : List Int} (h : ri a = true) : 1 ≤ a.length ∧ a.length ≤ 12 ∧ Sm a 1048576 ∧ 0 < a.sum ∧ a.sum ≤ 12582912 := by
  simp only [ri, Bool.and_eq_true, wi_iff, decide_eq_true_eq] at h
  obtain ⟨⟨h1, h2, h3⟩, h4⟩ := h
  have := h3.sum_le h2 (by omega)
  exact ⟨h1, h2, h3, h4, by omega⟩

/-- The distance of two lists of weights. -/
def farR (a b : List Int) : SRatio :=
  mkR ((dL a b a.sum b.sum).sum.toNat / Nat.gcd (dL a b a.sum b.sum).sum.toNat (2 * a.sum * b.sum).toNat) ((2 * a.sum * b.sum).toNat / Nat.gcd (dL a b a.sum b.sum).sum.toNat (2 * a.sum * b.sum).toNat)
theorem far_is (a b : List Int) (ha : ri a = true) (hb : ri b = true) (hl : a.length = b.length) (hs : 2 * a.sum * b.sum ≤ 2147483648) :
    ∃ r, fFar a b = some (r, 0) ∧ r.P * (2 * a.sum * b.sum) = (dL a b a.sum b.sum).sum * r.Q ∧ 0 ≤ r.P ∧ 0 < r.Q ∧ r.P ≤ 2 * a.sum * b.sum ∧ r.Q ≤ 2 * a.sum * b.sum ∧ va r = true ∧ r = farR a b := by
  obtain ⟨a1, a12, as1, ap, al⟩ := sum_le12 ha
  obtain ⟨b1, b12, bs1, bp, bl⟩ := sum_le12 hb
  have hds := dL_sm as1 bs1 ⟨by omega, al⟩ ⟨by omega, bl⟩
  have hdl : (dL a b a.sum b.sum).length = a.length := by simp [dL, hl]
  have hdsum := dL_sum_le as1 bs1 (A := a.sum) (B := b.sum) (by omega) (by omega)
  have hAB := mul_bound (x := a.sum) (y := b.sum) ⟨by omega, al⟩ ⟨by omega, bl⟩
  have hABp : 0 < a.sum * b.sum := Int.mul_pos ap bp
  have hcomm : b.sum * a.sum = a.sum * b.sum := Int.mul_comm _ _
  have h2AB : 2 * a.sum * b.sum = 2 * (a.sum * b.sum) := Int.mul_assoc _ _ _
  unfold fFar
  rw [both_is a b (by omega) (by omega), if_neg (show ¬ a.length ≠ b.length from fun h => h hl), ha, hb]
  simp only [Bool.and_self, if_true, Option.bind_some]
  rw [if_neg (by decide), sum_is (by omega) as1 (by omega) (by omega), sum_is (by omega) bs1 (by omega) (by omega)]
  simp only [Option.bind_some]
  have key : tailrec (fun (s18 : Int × Int) => ((if (decide (s18.1 < (a.length : Int))) = true then (idx a s18.1).bind fun t33 => (idx b s18.1).bind fun t39 => (idx b s18.1).bind fun t46 => (idx a s18.1).bind fun t52 => (some (.inl ((IntKind.i64.wrap (s18.1 + (1:Int))), (IntKind.i64.wrap (s18.2 + (imax (IntKind.i64.wrap ((IntKind.i64.wrap (t33 * b.sum)) - (IntKind.i64.wrap (t39 * a.sum)))) (IntKind.i64.wrap ((IntKind.i64.wrap (t46 * a.sum)) - (IntKind.i64.wrap (t52 * b.sum)))))))))) else (some (.inr s18.2))) : Option ((Int × Int) ⊕ ((Int))))) ((0:Int), (0:Int)) = some (dL a b a.sum b.sum).sum := by
    refine tailrec_for a.length (fun k => ((k : Int), ((dL a b a.sum b.sum).take k).sum) : Nat → Int × Int) _ ?_ ?_
    · intro k hk
      have hk' : k < b.length := by omega
      have hkd : k < (dL a b a.sum b.sum).length := by rw [hdl]; exact hk
      have e1 := mul_bound (as1 _ (List.getElem_mem hk)) (y := b.sum) ⟨by omega, bl⟩
      have e2 := mul_bound (bs1 _ (List.getElem_mem hk')) (y := a.sum) ⟨by omega, al⟩
      have t1 : Sm ((dL a b a.sum b.sum).take (k + 1)) 13194139533312 := fun z hz => hds z (List.mem_of_mem_take hz)
      have t2 := t1.sum_le (n := 12) (by simp; omega) (by omega)
      have t3 := t1.sum.1
      simp only
      rw [if_pos (by simpa using hk), idx_lt hk, idx_lt hk']
      simp only [Option.bind_some]
      rw [w64 (n := a[k] * b.sum) (by omega) (by omega), w64 (n := b[k] * a.sum) (by omega) (by omega), w64 (n := a[k] * b.sum - b[k] * a.sum) (by omega) (by omega), w64 (n := b[k] * a.sum - a[k] * b.sum) (by omega) (by omega),
        imax_abs _ _ (by omega), w64_succ hk (by omega)]
      rw [sum_take_succ _ hkd] at t2 t3 ⊢
      have e3 : (dL a b a.sum b.sum)[k] = (((a[k] * b.sum - b[k] * a.sum).natAbs : Nat) : Int) := by simp [dL, dE]
      rw [e3] at t2 t3 ⊢
      rw [w64 (by omega) (by omega)]
    · simp only
      rw [if_neg (by simp), ← hdl, List.take_length]
  rw [key]
  simp only [Option.bind_some]
  rw [w64 (n := 2 * a.sum) (by omega) (by omega), w64 (n := 2 * a.sum * b.sum) (by omega) (by omega)]
  obtain ⟨p, hp⟩ : ∃ p : Nat, (dL a b a.sum b.sum).sum = (p : Int) := ⟨_, (Int.toNat_of_nonneg hdsum.1).symm⟩
  obtain ⟨q, hq⟩ : ∃ q : Nat, 2 * a.sum * b.sum = (q : Int) := ⟨_, (Int.toNat_of_nonneg (by omega)).symm⟩
  rw [hp, hq]
  have hq0 : 0 < q := by omega
  have hpq : p ≤ q := by omega
  have hq31 : q ≤ 2147483648 := by omega
  have hg : 0 < Nat.gcd p q := Nat.gcd_pos_of_pos_right _ hq0
  have hsm2 : Sm [(p : Int), (q : Int)] 2147483648 := by
    intro z hz
    simp at hz
    rcases hz with h | h <;> subst h <;> omega
  rw [gcd_is hsm2 (by simp)]
  have elg : lg [(p : Int), (q : Int)] = Nat.gcd p q := by simp [lg, Nat.gcd_comm]
  rw [elg]
  simp only [Option.bind_some]
  rw [nz_of (by omega)]
  simp only [Option.bind_some]
  have d1 := Nat.div_le_self p (Nat.gcd p q)
  have d2 := Nat.div_le_self q (Nat.gcd p q)
  have wq : ∀ x : Nat, x ≤ 2147483648 → IntKind.i64.wrap (Int.tdiv (x : Int) ((Nat.gcd p q : Nat) : Int)) = ((x / Nat.gcd p q : Nat) : Int) := by
    intro x hx
    rw [wrap_quo (by omega) (by omega) (by omega)]; rfl
  rw [wq p (by omega), wq q (by omega)]
  have hq' : 0 < q / Nat.gcd p q := Nat.div_pos (Nat.le_of_dvd hq0 (Nat.gcd_dvd_right _ _)) hg
  rw [make_small _ _ (Nat.le_trans d1 (by omega)) hq' (Nat.le_trans d2 (by omega))]
  simp only [Option.bind_some]
  rw [if_neg (by decide)]
  obtain ⟨c1, c2, c3⟩ := mkR_cross (p / Nat.gcd p q) (q / Nat.gcd p q) hq'
  refine ⟨_, rfl, ?_, c3, c2, ?_, ?_, mkR_valid (Nat.le_trans d1 (by omega)) hq' (Nat.le_trans d2 (by omega)), by unfold farR; rw [hp, hq, Int.toNat_natCast, Int.toNat_natCast]⟩
  · have m1 : (p / Nat.gcd p q) * Nat.gcd p q = p := Nat.div_mul_cancel (Nat.gcd_dvd_left _ _)
    have m2 : (q / Nat.gcd p q) * Nat.gcd p q = q := Nat.div_mul_cancel (Nat.gcd_dvd_right _ _)
    generalize p / Nat.gcd p q = x at c1 m1 ⊢
    generalize q / Nat.gcd p q = y at c1 m1 m2 ⊢
    generalize mkR x y = r at c1 ⊢
    generalize Nat.gcd p q = g at m1 m2
    subst m1; subst m2
    rw [Int.natCast_mul, Int.natCast_mul, ← Int.mul_assoc, c1, Int.mul_right_comm]
  · have h1 := Nat.div_le_self (p / Nat.gcd p q) (Nat.gcd (p / Nat.gcd p q) (q / Nat.gcd p q))
    show (((p / Nat.gcd p q) / (Nat.gcd (p / Nat.gcd p q) (q / Nat.gcd p q)) : Nat) : Int) ≤ _
    exact Int.ofNat_le.2 (by omega)
  · have h1 := Nat.div_le_self (q / Nat.gcd p q) (Nat.gcd (p / Nat.gcd p q) (q / Nat.gcd p q))
    show (((q / Nat.gcd p q) / (Nat.gcd (p / Nat.gcd p q) (q / Nat.gcd p q)) : Nat) : Int) ≤ _
    exact Int.ofNat_le.2 (by omega)

theorem proper_is {a : SRatio} (h : 0 < a.Q) : fproper a = some a := by
  unfold fproper
  rw [if_neg (by simp; omega)]; rfl
theorem bothQ_is {a b : SRatio} (ha : 0 < a.Q) (hb : 0 < b.Q) (va1 : va a = true) (vb1 : va b = true) : fbothQ a b = some (a, b, true) := by
  unfold fbothQ
  rw [proper_is ha, proper_is hb, valid_is, valid_is, va1, vb1]
  rfl
theorem mul_is {a b : SRatio} (ha : 0 < a.Q) (hb : 0 < b.Q) (va1 : va a = true) (vb1 : va b = true) (pa : 0 ≤ a.P) (pb : 0 ≤ b.P) (hP : a.P * b.P ≤ 2147483648) (hQ : a.Q * b.Q ≤ 2147483648) :
    ∃ r, fMul a b = some (r, 0) ∧ r.P * (a.Q * b.Q) = (a.P * b.P) * r.Q ∧ 0 < r.Q ∧ va r = true := by
  unfold fMul
  rw [bothQ_is ha hb va1 vb1]
  simp only [Option.bind_some, Bool.not_true, Bool.false_eq_true, if_false]
  have p0 := Int.mul_nonneg pa pb
  have q0 := Int.mul_pos ha hb
  rw [w64 (by omega) (by omega), w64 (by omega) (by omega)]
  obtain ⟨p, hp⟩ : ∃ p : Nat, a.P * b.P = (p : Int) := ⟨_, (Int.toNat_of_nonneg p0).symm⟩
  obtain ⟨q, hq⟩ : ∃ q : Nat, a.Q * b.Q = (q : Int) := ⟨_, (Int.toNat_of_nonneg (Int.le_of_lt q0)).symm⟩
  rw [hp, hq]
  rw [make_small p q (by omega) (by omega) (by omega)]
  obtain ⟨c1, c2, c3⟩ := mkR_cross p q (by omega)
  exact ⟨_, rfl, c1, c2, mkR_valid (by omega) (by omega) (by omega)⟩
theorem compare_is {a b : SRatio} (ha : 0 < a.Q) (hb : 0 < b.Q) (va1 : va a = true) (vb1 : va b = true) (h : a.P * b.Q = b.P * a.Q) : fCompare a b = some 0 := by
  unfold fCompare
  rw [bothQ_is ha hb va1 vb1]
  simp only [Option.bind_some, Bool.not_true, Bool.false_or]
  rw [h, if_pos (by simp)]

end Go.Proofs.Ytjniiejgccdhiaa
