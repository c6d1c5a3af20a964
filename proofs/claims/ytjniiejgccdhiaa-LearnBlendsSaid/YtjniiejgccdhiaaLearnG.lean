/- LearnBetween holds of the Lean functions. No condition. -/
import Derived.Test.YtjniiejgccdhiaaLearnF
namespace Go.Proofs.Ytjniiejgccdhiaa
open Go.Sim

theorem zip_sum (u v : Int) : ∀ (a b : List Int), a.length = b.length → (List.zipWith (fun x y => u * x + v * y) a b).sum = u * a.sum + v * b.sum := by
  intro a
  induction a with
  | nil => intro b h; cases b with
    | nil => simp
    | cons _ _ => simp at h
  | cons x a ih => intro b h; cases b with
    | nil => simp at h
    | cons y b =>
      simp only [List.zipWith_cons_cons, List.sum_cons]
      rw [ih b (by simpa using h)]
      grind
theorem bE_sum {a b : List Int} (sh : SRatio) (h : a.length = b.length) : (bE a b sh).sum = bq sh * a.sum * b.sum := by
  have e : bE a b sh = List.zipWith (fun x y => ((bq sh - sh.P) * b.sum) * x + (sh.P * a.sum) * y) a b := by
    unfold bE
    congr 1
    funext x y
    grind
  rw [e, zip_sum _ _ a b h]
  grind
theorem natAbs_mul_nonneg {k z : Int} (h : 0 ≤ k) : ((((k * z).natAbs : Nat)) : Int) = k * ((z.natAbs : Nat) : Int) := by
  rw [Int.natAbs_mul, Int.natCast_mul, Int.natAbs_of_nonneg h]
/-- The distance to the blend, times its divisor. -/
theorem dist_low {A B C g s p : Int} (hp : 0 ≤ p) (hA : 0 ≤ A) (hg : 0 ≤ g) (hC : g * C = s * A * B) :
    ∀ (a b c : List Int), a.length = b.length → a.length = c.length → (∀ k (h1 : k < a.length) (h2 : k < b.length) (h3 : k < c.length), g * c[k] = (s - p) * a[k] * B + p * b[k] * A) → g * (dL a c A C).sum = p * A * (dL a b A B).sum := by
  intro a
  induction a with
  | nil => intro b c _ _ _; simp [dL]
  | cons x a ih =>
    intro b c hb hc hk
    cases b with
    | nil => simp at hb
    | cons y b =>
      cases c with
      | nil => simp at hc
      | cons z c =>
        have h0 := hk 0 (by simp) (by simp) (by simp)
        simp only [List.getElem_cons_zero] at h0
        have h1 := ih b c (by simpa using hb) (by simpa using hc) (fun k h1 h2 h3 => by
          have := hk (k + 1) (by simpa using h1) (by simpa using h2) (by simpa using h3)
          simpa using this)
        simp only [dL, List.zipWith_cons_cons, List.sum_cons] at h1 ⊢
        rw [Int.mul_add, Int.mul_add, h1]
        congr 1
        unfold dE
        rw [← natAbs_mul_nonneg hg, ← natAbs_mul_nonneg (Int.mul_nonneg hp hA)]
        congr 2
        grind

theorem imax_one {q : Int} (h : 1 ≤ q) : imax q 1 = q := by unfold imax; split <;> omega
theorem bound3 {x y z X Y Z : Int} (hx : 0 ≤ x ∧ x ≤ X) (hy : 0 ≤ y ∧ y ≤ Y) (hz : 0 ≤ z ∧ z ≤ Z) : 0 ≤ x * y * z ∧ x * y * z ≤ X * Y * Z := mul_bound (mul_bound hx hy) hz

/-- The share: a fraction from 0 to 1. -/
structure Share (sh : SRatio) : Prop where
  p0 : 0 ≤ sh.P
  pq : sh.P ≤ sh.Q
  q1 : 1 ≤ sh.Q
  q30 : sh.Q ≤ 30
  v : va sh = true
theorem share_of {p d : Nat} (hd : 0 < d) (hp : p ≤ d) (hd2 : d ≤ 30) : Share (mkR p d) := by
  obtain ⟨c1, c2, c3⟩ := mkR_cross p d hd
  have h2 := Nat.div_le_self d (Nat.gcd p d)
  have h3 : (mkR p d).P ≤ (mkR p d).Q := by
    show ((p / Nat.gcd p d : Nat) : Int) ≤ ((d / Nat.gcd p d : Nat) : Int)
    exact Int.ofNat_le.2 (Nat.div_le_div_right hp)
  have h4 : (mkR p d).Q ≤ 30 := by
    show ((d / Nat.gcd p d : Nat) : Int) ≤ 30
    exact Int.le_trans (Int.ofNat_le.2 h2) (by omega)
  exact ⟨c3, h3, by omega, h4, mkR_valid (by omega) hd (by omega)⟩

/-- Small weights, as the laws make them. -/
structure Small (m : List Int) (n : Nat) : Prop where
  len : m.length = n
  l1 : 1 ≤ n
  l8 : n ≤ 8
  sm : Sm m 60
  pos : 0 < m.sum
theorem Small.sum {m : List Int} {n : Nat} (h : Small m n) : m.sum ≤ 480 := by
  have := h.sm.sum_le (n := 8) (by rw [h.len]; exact h.l8) (by omega)
  omega
theorem Small.ri {m : List Int} {n : Nat} (h : Small m n) : ri m = true := by
  unfold Go.Proofs.Ytjniiejgccdhiaa.ri
  rw [Bool.and_eq_true, wi_iff]
  exact ⟨⟨by rw [h.len]; exact h.l1, by rw [h.len]; have := h.l8; omega, h.sm.mono (by omega)⟩, by simpa using h.pos⟩
theorem small_good {a b : List Int} {n : Nat} {sh : SRatio} (ha : Small a n) (hb : Small b n) (hs : Share sh) : bad a b sh = false := by
  have e : bq sh = sh.Q := imax_one hs.q1
  unfold bad
  rw [ha.ri, hb.ri, hs.v, e]
  have h1 : decide (sh.P < 0) = false := decide_eq_false (by have := hs.p0; omega)
  have h2 : decide (sh.P > sh.Q) = false := decide_eq_false (by have := hs.pq; omega)
  have h3 : decide (sh.Q > 1024) = false := decide_eq_false (by have := hs.q30; omega)
  rw [h1, h2, h3]; rfl
theorem small_bE {a b : List Int} {n : Nat} {sh : SRatio} (ha : Small a n) (hb : Small b n) (hs : Share sh) : Sm (bE a b sh) 864000 := by
  have g := good_of (sh := sh) (ha.len.trans hb.len.symm) (by rw [small_good ha hb hs]; simp)
  intro x hx
  obtain ⟨k, hk, rfl⟩ := List.getElem_of_mem hx
  have h1 : k < a.length := by rw [g.elen] at hk; exact hk
  have h2 : k < b.length := by rw [← g.len]; exact h1
  have e : bq sh = sh.Q := imax_one hs.q1
  have i1 := ha.sm _ (List.getElem_mem h1)
  have i2 := hb.sm _ (List.getElem_mem h2)
  have i3 := ha.sum
  have i4 := hb.sum
  have i5 := ha.pos
  have i6 := hb.pos
  have j0 := hs.p0
  have j1 := hs.pq
  have j2 := hs.q30
  have k1 := mul_bound (x := a[k]) (y := b.sum) (X := 60) (Y := 480) i1 ⟨by omega, i4⟩
  have k2 := mul_bound (x := b[k]) (y := a.sum) (X := 60) (Y := 480) i2 ⟨by omega, i3⟩
  have k3 := mul_bound (x := sh.Q - sh.P) (X := sh.Q - sh.P) ⟨by omega, Int.le_refl _⟩ k1
  have k4 := mul_bound (x := sh.P) (X := sh.P) ⟨by omega, Int.le_refl _⟩ k2
  have e1 : (sh.Q - sh.P) * a[k] * b.sum = (sh.Q - sh.P) * (a[k] * b.sum) := Int.mul_assoc _ _ _
  have e2 : sh.P * b[k] * a.sum = sh.P * (b[k] * a.sum) := Int.mul_assoc _ _ _
  have key : 0 ≤ (bq sh - sh.P) * a[k] * b.sum + sh.P * b[k] * a.sum ∧ (bq sh - sh.P) * a[k] * b.sum + sh.P * b[k] * a.sum ≤ 864000 := by
    rw [e, e1, e2]
    omega
  simpa only [bE, List.getElem_zipWith] using key
theorem small_blend {a b : List Int} {n : Nat} {sh : SRatio} (ha : Small a n) (hb : Small b n) (hs : Share sh) : blS a b sh = (low (bE a b sh), 0) := by
  have hl : a.length = b.length := ha.len.trans hb.len.symm
  have hg := small_good ha hb hs
  have g := good_of (sh := sh) hl (by rw [hg]; simp)
  unfold blS
  rw [if_neg (show ¬ a.length ≠ b.length from fun h => h hl), if_neg (by rw [hg]; simp)]
  have hw : wi (low (bE a b sh)) 1048576 = true := wi_iff.2 ⟨by rw [low_len, g.elen]; exact g.l1, by rw [low_len, g.elen]; exact g.l12, (low_sm (small_bE ha hb hs)).mono (by omega)⟩
  rw [hw]; rfl

end Go.Proofs.Ytjniiejgccdhiaa
