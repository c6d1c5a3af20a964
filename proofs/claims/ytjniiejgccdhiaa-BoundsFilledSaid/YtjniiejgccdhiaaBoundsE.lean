/- Shortest ways in a table: what both programs for them reckon, and that it is one table. No condition. -/
import Derived.Test.YtjniiejgccdhiaaBoundsB
namespace Go.Proofs.Ytjniiejgccdhiaa
open Go.Sim

def upd1 {α : Type} (R : Nat → α) (k : Nat) (v : α) : Nat → α := fun q => if q = k then v else R q
theorem upd1_same {α : Type} {R : Nat → α} {k : Nat} {v : α} : upd1 R k v k = v := if_pos rfl
theorem upd1_ne {α : Type} {R : Nat → α} {k q : Nat} {v : α} (h : q ≠ k) : upd1 R k v q = R q := if_neg h
theorem upd1_upd1 {α : Type} {R : Nat → α} {k : Nat} {v w : α} : upd1 (upd1 R k v) k w = upd1 R k w := by
  funext q; unfold upd1; split <;> rfl
theorem upd1_self {α : Type} {R : Nat → α} {k : Nat} : upd1 R k (R k) = R := by
  funext q; unfold upd1; split
  · rename_i h; rw [h]
  · rfl
def rowL {α : Type} (m : Nat) (R : Nat → α) : List α := (List.range m).map R
def tab (m : Nat) (G : Nat → Nat → Int) : List (List Int) := rowL m fun i => rowL m (G i)
theorem rowL_len {α : Type} {m : Nat} {R : Nat → α} : (rowL m R).length = m := by simp [rowL]
theorem tab_len {m : Nat} {G : Nat → Nat → Int} : (tab m G).length = m := rowL_len
theorem rowL_idx {α : Type} {m : Nat} {R : Nat → α} {k : Nat} (h : k < m) : idx (rowL m R) (k : Int) = some (R k) := by
  rw [idx_lt (by rw [rowL_len]; exact h)]; simp [rowL]
theorem rowL_set {α : Type} {m : Nat} {R : Nat → α} {k : Nat} (h : k < m) (v : α) : setAt (rowL m R) (k : Int) v = some (rowL m (upd1 R k v)) := by
  rw [setAt_lt (by rw [rowL_len]; exact h)]
  congr 1
  apply List.ext_getElem
  · simp [rowL]
  · intro i h1 h2
    simp only [rowL, List.getElem_set, List.getElem_map, List.getElem_range, upd1]
    by_cases hi : k = i
    · rw [if_pos hi, if_pos hi.symm]
    · rw [if_neg hi, if_neg (fun h => hi h.symm)]
theorem tab_idx {m : Nat} {G : Nat → Nat → Int} {i : Nat} (h : i < m) : idx (tab m G) (i : Int) = some (rowL m (G i)) := rowL_idx h
theorem tab_set {m : Nat} {G : Nat → Nat → Int} {i : Nat} (h : i < m) (R : Nat → Int) : setAt (tab m G) (i : Int) (rowL m R) = some (tab m (upd1 G i R)) := by
  unfold tab
  rw [rowL_set h]
  congr 1
  unfold rowL
  apply List.map_congr_left
  intro p _
  unfold upd1
  split <;> rfl
theorem rowL_congr {α : Type} {m : Nat} {R S : Nat → α} (h : ∀ k, k < m → R k = S k) : rowL m R = rowL m S := by
  unfold rowL
  apply List.map_congr_left
  intro k hk
  exact h k (by simpa using hk)
theorem tab_congr {m : Nat} {G H : Nat → Nat → Int} (h : ∀ i k, i < m → k < m → G i k = H i k) : tab m G = tab m H := rowL_congr fun i hi => rowL_congr fun k hk => h i k hi hk
theorem rowL_rep {α : Type} (m : Nat) (v : α) : rowL m (fun _ => v) = List.replicate m v := by
  unfold rowL; rw [List.map_const']; simp

abbrev INF : Int := 1099511627776

/-! Ways -/

structure Ed where
  a : Nat
  b : Nat
  w : Int

inductive Way (E : List Ed) : Nat → Nat → Int → Prop where
  | nil (i : Nat) : Way E i i 0
  | cons {e : Ed} {k : Nat} {w : Int} (he : e ∈ E) (h : Way E e.b k w) : Way E e.a k (e.w + w)
theorem Way.trans {E : List Ed} {i j k : Nat} {v w : Int} (h : Way E i j v) (g : Way E j k w) : Way E i k (v + w) := by
  induction h with
  | nil i => simpa using g
  | cons he _ ih =>
    have := Way.cons he (ih g)
    rwa [← Int.add_assoc] at this
theorem Way.one {E : List Ed} {e : Ed} (he : e ∈ E) : Way E e.a e.b e.w := by simpa using Way.cons he (Way.nil e.b)

/-! One row through one value -/

def stepT (j : Nat) (T R : Nat → Int) (k : Nat) : Nat → Int := if R j < INF ∧ T k < INF then upd1 R k (imin (R k) (R j + T k)) else R
def passT (j : Nat) (T R : Nat → Int) (n : Nat) : Nat → Int := (List.range n).foldl (stepT j T) R
def stepS (j : Nat) (R : Nat → Int) (k : Nat) : Nat → Int := if R j < INF ∧ R k < INF then upd1 R k (imin (R k) (R j + R k)) else R
def passS (j : Nat) (R : Nat → Int) (n : Nat) : Nat → Int := (List.range n).foldl (stepS j) R
theorem passT_succ (j : Nat) (T R : Nat → Int) (n : Nat) : passT j T R (n + 1) = stepT j T (passT j T R n) n := by
  unfold passT; rw [List.range_succ, List.foldl_append]; rfl
theorem passS_succ (j : Nat) (R : Nat → Int) (n : Nat) : passS j R (n + 1) = stepS j (passS j R n) n := by
  unfold passS; rw [List.range_succ, List.foldl_append]; rfl

/-- The numbers of a row: ways, within bounds. -/
structure RowOk (E : List Ed) (m : Nat) (B U : Int) (i : Nat) (R : Nat → Int) : Prop where
  lo : ∀ q, q < m → -B ≤ R q
  hi : ∀ q, q < m → R q ≤ INF
  up : ∀ q, q < m → R q < INF → R q ≤ U
  way : ∀ q, q < m → R q < INF → Way E i q (R q)
theorem RowOk.mono {E : List Ed} {m : Nat} {B U B' U' : Int} {i : Nat} {R : Nat → Int} (h : RowOk E m B U i R) (hB : B ≤ B') (hU : U ≤ U') : RowOk E m B' U' i R :=
  ⟨fun q hq => by have := h.lo q hq; omega, h.hi, fun q hq hf => by have := h.up q hq hf; omega, h.way⟩

theorem imin_le (a b : Int) : imin a b ≤ a ∧ imin a b ≤ b ∧ (imin a b = a ∨ imin a b = b) := by unfold imin; split <;> omega

theorem passT_ok {E : List Ed} {m i j : Nat} {b t U : Int} {T R : Nat → Int} (hj : j < m) (hR : RowOk E m b U i R) (hT : RowOk E m t U j T) (h0 : 0 ≤ b) (h1 : 0 ≤ t) (hU : 0 ≤ U) :
    ∀ n, n ≤ m → RowOk E m (b + t + t) (U + U) i (passT j T R n) ∧ (∀ q, q < m → passT j T R n q ≤ R q) ∧ (-(b + t) ≤ passT j T R n j) ∧ (n ≤ j → passT j T R n j = R j) ∧ (passT j T R n j < INF → R j < INF) := by
  intro n
  induction n with
  | zero =>
    intro _
    refine ⟨hR.mono (by omega) (by omega), fun q _ => Int.le_refl _, ?_, fun _ => rfl, fun h => h⟩
    have := hR.lo j hj
    show -(b + t) ≤ R j
    omega
  | succ n ih =>
    intro hn
    obtain ⟨i1, i2, i3, i4, i5⟩ := ih (by omega)
    rw [passT_succ]
    generalize hP : passT j T R n = P at i1 i2 i3 i4 i5
    unfold stepT
    by_cases hc : P j < INF ∧ T n < INF
    · rw [if_pos hc]
      obtain ⟨m1, m2, m3⟩ := imin_le (P n) (P j + T n)
      have u1 := i2 j hj
      have u2 := hR.up j hj (i5 hc.1)
      have u3 := hT.up n (by omega) hc.2
      have l3 := hT.lo n (by omega)
      have l1 := i1.lo n (by omega)
      have h1' := i1.hi n (by omega)
      have w : Way E i n (P j + T n) := (i1.way j hj hc.1).trans (hT.way n (by omega) hc.2)
      refine ⟨⟨fun q hq => ?_, fun q hq => ?_, fun q hq hf => ?_, fun q hq hf => ?_⟩, fun q hq => ?_, ?_, ?_, ?_⟩
      · by_cases hqn : q = n
        · subst hqn; rw [upd1_same]; rcases m3 with h | h <;> rw [h] <;> omega
        · rw [upd1_ne hqn]; exact i1.lo q hq
      · by_cases hqn : q = n
        · subst hqn; rw [upd1_same]; omega
        · rw [upd1_ne hqn]; exact i1.hi q hq
      · by_cases hqn : q = n
        · subst hqn
          rw [upd1_same]; omega
        · rw [upd1_ne hqn] at hf ⊢; exact i1.up q hq hf
      · by_cases hqn : q = n
        · subst hqn
          rw [upd1_same] at hf ⊢
          rcases m3 with h | h
          · rw [h] at hf ⊢; exact i1.way q hq hf
          · rw [h]; exact w
        · rw [upd1_ne hqn] at hf ⊢; exact i1.way q hq hf
      · by_cases hqn : q = n
        · subst hqn; rw [upd1_same]; have := i2 q hq; omega
        · rw [upd1_ne hqn]; exact i2 q hq
      · by_cases hjn : j = n
        · subst hjn
          rw [upd1_same]
          have e := i4 (Nat.le_refl _)
          have l0 := hR.lo j hj
          rcases m3 with h | h <;> rw [h] <;> omega
        · rw [upd1_ne hjn]; exact i3
      · intro hnj
        rw [upd1_ne (by omega)]; exact i4 (by omega)
      · intro _; exact i5 hc.1
    · rw [if_neg hc]
      exact ⟨i1, i2, i3, fun h => i4 (by omega), i5⟩

theorem passT_exact {m j : Nat} {T R : Nat → Int} (hj : j < m) (h0 : T j = 0) (hR : ∀ q, q < m → R q ≤ INF) : ∀ n, n ≤ m → ∀ q, q < m → passT j T R n q = if q < n ∧ R j < INF ∧ T q < INF then imin (R q) (R j + T q) else R q := by
  intro n
  induction n with
  | zero => intro _ q _; rw [if_neg (by omega)]; rfl
  | succ n ih =>
    intro hn q hq
    have hPj : passT j T R n j = R j := by
      rw [ih (by omega) j hj]
      split
      · rw [h0, Int.add_zero]; unfold imin; split <;> omega
      · rfl
    have hPn : passT j T R n n = R n := by rw [ih (by omega) n (by omega), if_neg (by omega)]
    rw [passT_succ]
    unfold stepT
    rw [hPj, hPn]
    by_cases hqn : q = n
    · subst hqn
      by_cases hc : R j < INF ∧ T q < INF
      · rw [if_pos hc, upd1_same, if_pos ⟨by omega, hc⟩]
      · rw [if_neg hc, hPn, if_neg (fun h => hc h.2)]
    · have e : (if q < n + 1 ∧ R j < INF ∧ T q < INF then imin (R q) (R j + T q) else R q) = if q < n ∧ R j < INF ∧ T q < INF then imin (R q) (R j + T q) else R q := by
        have : (q < n + 1 ∧ R j < INF ∧ T q < INF) ↔ (q < n ∧ R j < INF ∧ T q < INF) := by
          constructor
          · rintro ⟨a, b⟩; exact ⟨by omega, b⟩
          · rintro ⟨a, b⟩; exact ⟨by omega, b⟩
        simp only [this]
      rw [e, ← ih (by omega) q hq]
      split
      · rw [upd1_ne hqn]
      · rfl

theorem passS_ok {E : List Ed} {m j : Nat} {b U : Int} {R : Nat → Int} (hj : j < m) (hR : RowOk E m b U j R) (hd : R j ≤ 0) (h0 : 0 ≤ b) (hU : 0 ≤ U) :
    ∀ n, n ≤ m → RowOk E m (b + b + b) U j (passS j R n) ∧ (∀ q, q < m → passS j R n q ≤ R q) ∧ (-(b + b) ≤ passS j R n j) ∧ (n ≤ j → passS j R n j = R j) ∧ (∀ q, n ≤ q → q < m → q ≠ j → passS j R n q = R q) ∧ (∀ q, q < m → passS j R n q < INF → R q < INF) := by
  intro n
  induction n with
  | zero =>
    intro _
    refine ⟨hR.mono (by omega) (by omega), fun q _ => Int.le_refl _, ?_, fun _ => rfl, fun _ _ _ _ => rfl, fun q _ h => h⟩
    have := hR.lo j hj
    show -(b + b) ≤ R j
    omega
  | succ n ih =>
    intro hn
    obtain ⟨i1, i2, i3, i4, i5, i6⟩ := ih (by omega)
    rw [passS_succ]
    generalize hP : passS j R n = P at i1 i2 i3 i4 i5 i6
    unfold stepS
    by_cases hc : P j < INF ∧ P n < INF
    · rw [if_pos hc]
      obtain ⟨m1, m2, m3⟩ := imin_le (P n) (P j + P n)
      have u1 := i2 j hj
      have u3 := i1.up n (by omega) hc.2
      have l1 := i1.lo n (by omega)
      have h1' := i1.hi n (by omega)
      have w : Way E j n (P j + P n) := (i1.way j hj hc.1).trans (i1.way n (by omega) hc.2)
      have ln : -b ≤ P n ∨ n = j := by
        by_cases hnj : n = j
        · exact .inr hnj
        · left; rw [i5 n (Nat.le_refl _) (by omega) hnj]; exact hR.lo n (by omega)
      refine ⟨⟨fun q hq => ?_, fun q hq => ?_, fun q hq hf => ?_, fun q hq hf => ?_⟩, fun q hq => ?_, ?_, ?_, ?_, ?_⟩
      · by_cases hqn : q = n
        · subst hqn
          rw [upd1_same]
          rcases ln with ln | ln
          · rcases m3 with h | h <;> rw [h] <;> omega
          · subst ln
            have e := i4 (Nat.le_refl _)
            have l0 := hR.lo q hj
            rcases m3 with h | h <;> rw [h] <;> omega
        · rw [upd1_ne hqn]; exact i1.lo q hq
      · by_cases hqn : q = n
        · subst hqn; rw [upd1_same]; omega
        · rw [upd1_ne hqn]; exact i1.hi q hq
      · by_cases hqn : q = n
        · subst hqn; rw [upd1_same]; omega
        · rw [upd1_ne hqn] at hf ⊢; exact i1.up q hq hf
      · by_cases hqn : q = n
        · subst hqn
          rw [upd1_same] at hf ⊢
          rcases m3 with h | h
          · rw [h] at hf ⊢; exact i1.way q hq hf
          · rw [h]; exact w
        · rw [upd1_ne hqn] at hf ⊢; exact i1.way q hq hf
      · by_cases hqn : q = n
        · subst hqn; rw [upd1_same]; have := i2 q hq; omega
        · rw [upd1_ne hqn]; exact i2 q hq
      · by_cases hjn : j = n
        · subst hjn
          rw [upd1_same]
          have e := i4 (Nat.le_refl _)
          have l0 := hR.lo j hj
          rcases m3 with h | h <;> rw [h] <;> omega
        · rw [upd1_ne hjn]; exact i3
      · intro hnj
        rw [upd1_ne (by omega)]; exact i4 (by omega)
      · intro q h1 h2 h3
        rw [upd1_ne (by omega)]; exact i5 q (by omega) h2 h3
      · intro q hq hf
        by_cases hqn : q = n
        · subst hqn; exact i6 q hq hc.2
        · rw [upd1_ne hqn] at hf; exact i6 q hq hf
    · rw [if_neg hc]
      exact ⟨i1, i2, i3, fun h => i4 (by omega), fun q h1 h2 h3 => i5 q (by omega) h2 h3, i6⟩

theorem passS_exact {j : Nat} {R : Nat → Int} (h0 : R j = 0) : ∀ n, passS j R n = R := by
  intro n
  induction n with
  | zero => rfl
  | succ n ih =>
    rw [passS_succ, ih]
    unfold stepS
    split
    · rw [h0, Int.zero_add]
      have : imin (R n) (R n) = R n := by unfold imin; split <;> rfl
      rw [this, upd1_self]
    · rfl

end Go.Proofs.Ytjniiejgccdhiaa
