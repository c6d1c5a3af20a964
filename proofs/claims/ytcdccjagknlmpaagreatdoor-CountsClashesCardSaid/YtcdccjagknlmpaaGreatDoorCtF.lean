/- Counts: sets of indices as bits of a number. No condition. -/
import Derived.Test.YtcdccjagknlmpaaGreatDoorCtE
namespace Go.Proofs.YtcdccjagknlmpaaGreatDoor
open Go.Sim

theorem u64w {n : Int} (h0 : 0 ≤ n) (h1 : n < 18446744073709551616) : IntKind.u64.wrap n = n := by
  simp only [IntKind.wrap, IntKind.bits, IntKind.signed]
  simp; omega
theorem u64m (n : Int) : IntKind.u64.wrap n = n % 18446744073709551616 := by simp [IntKind.wrap, IntKind.bits, IntKind.signed]
theorem bv_nat {m : Nat} (h : m < 2 ^ 64) : (BitVec.ofInt 64 (m : Int)).toNat = m := by
  rw [BitVec.toNat_ofInt]
  have : ((m : Int) % ((2 ^ 64 : Nat) : Int)) = m := Int.emod_eq_of_lt (by omega) (by omega)
  rw [this]; simp
theorem ior_nat {a b : Nat} (ha : a < 2 ^ 64) (hb : b < 2 ^ 64) : ior .u64 (a : Int) (b : Int) = ((a ||| b : Nat) : Int) := by
  unfold ior
  show IntKind.u64.wrap (((BitVec.ofInt 64 (a : Int) ||| BitVec.ofInt 64 (b : Int)).toNat : Nat) : Int) = _
  rw [BitVec.toNat_or, bv_nat ha, bv_nat hb]
  have := Nat.or_lt_two_pow ha hb
  exact u64w (by omega) (by omega)
theorem iand_nat {a b : Nat} (ha : a < 2 ^ 64) (hb : b < 2 ^ 64) : iand .u64 (a : Int) (b : Int) = ((a &&& b : Nat) : Int) := by
  unfold iand
  show IntKind.u64.wrap (((BitVec.ofInt 64 (a : Int) &&& BitVec.ofInt 64 (b : Int)).toNat : Nat) : Int) = _
  rw [BitVec.toNat_and, bv_nat ha, bv_nat hb]
  have := Nat.and_lt_two_pow a hb
  exact u64w (by omega) (by omega)

def num (S : List Nat) : Nat := S.foldr (fun i a => 2 ^ i + a) 0
theorem num_cons (i : Nat) (S : List Nat) : num (i :: S) = 2 ^ i + num S := rfl
theorem num_app (S T : List Nat) : num (S ++ T) = num S + num T := by
  induction S with
  | nil => show num T = 0 + num T; omega
  | cons i S ih => rw [List.cons_append, num_cons, num_cons, ih]; omega
def Up (S : List Nat) : Prop := S.Pairwise (· < ·)
theorem num_mul {k : Nat} : ∀ {S : List Nat}, (∀ j ∈ S, k ≤ j) → ∃ q, num S = 2 ^ k * q
  | [], _ => ⟨0, rfl⟩
  | i :: S, h => by
    obtain ⟨q, hq⟩ := num_mul (S := S) fun j hj => h j (List.mem_cons_of_mem _ hj)
    have hk := h i (List.mem_cons_self ..)
    refine ⟨2 ^ (i - k) + q, ?_⟩
    rw [num_cons, hq, Nat.mul_add, ← Nat.pow_add, show k + (i - k) = i by omega]
theorem num_le {n : Nat} : ∀ {S : List Nat} {k : Nat}, Up S → (∀ j ∈ S, k ≤ j ∧ j < n) → k ≤ n → num S + 2 ^ k ≤ 2 ^ n
  | [], k, _, _, hk => by
    have := Nat.pow_le_pow_right (n := 2) (by decide) hk
    show 0 + 2 ^ k ≤ 2 ^ n; omega
  | i :: S, k, hu, h, _ => by
    have hp := List.pairwise_cons.1 hu
    have hi := h i (List.mem_cons_self ..)
    have ih := num_le (S := S) (k := i + 1) hp.2 (fun j hj => ⟨hp.1 j hj, (h j (List.mem_cons_of_mem _ hj)).2⟩) hi.2
    have hki := Nat.pow_le_pow_right (n := 2) (by decide) hi.1
    rw [num_cons]
    rw [Nat.pow_succ] at ih
    omega
theorem num_lt {n : Nat} {S : List Nat} (hu : Up S) (h : ∀ j ∈ S, j < n) : num S < 2 ^ n := by
  have := num_le (k := 0) hu (fun j hj => ⟨Nat.zero_le _, h j hj⟩) (Nat.zero_le _)
  omega
theorem num_pos {i : Nat} {S : List Nat} : 0 < num (i :: S) := by
  rw [num_cons]
  have := Nat.two_pow_pos i
  omega
theorem num_zero {S : List Nat} : num S = 0 ↔ S = [] := by
  cases S with
  | nil => exact ⟨fun _ => rfl, fun _ => rfl⟩
  | cons i S => exact ⟨fun h => by have := num_pos (i := i) (S := S); omega, fun h => by cases h⟩
theorem num_range (f : Nat) : ∀ c, num (List.range' f c) + 2 ^ f = 2 ^ (f + c)
  | 0 => by show 0 + 2 ^ f = 2 ^ f; omega
  | c + 1 => by
    have := num_range (f + 1) c
    rw [List.range'_succ, num_cons, show f + (c + 1) = f + 1 + c by omega, ← this, Nat.pow_succ]
    omega
theorem num_or {S T : List Nat} {n : Nat} (hS : Up S) (h : ∀ j ∈ S, j < n) (hT : ∀ j ∈ T, n ≤ j) : num S ||| num T = num (S ++ T) := by
  obtain ⟨q, hq⟩ := num_mul hT
  rw [num_app, hq, Nat.add_comm, Nat.two_pow_add_eq_or_of_lt (num_lt hS h), Nat.or_comm]

/-! The lowest bit -/

theorem odd_bit (q j : Nat) : (2 * q + 1).testBit (j + 1) = q.testBit j := by
  rw [Nat.testBit_succ]; congr 1; omega
theorem even_bit (q j : Nat) : (2 * q).testBit (j + 1) = q.testBit j := by
  rw [Nat.testBit_succ]; congr 1; omega
theorem odd_bit0 (q : Nat) : (2 * q + 1).testBit 0 = true := by simp
theorem even_bit0 (q : Nat) : (2 * q).testBit 0 = false := by simp
theorem bits_of (i q j : Nat) : (2 ^ i * q).testBit j = if j < i then false else q.testBit (j - i) := by
  have := Nat.testBit_two_pow_mul_add q (b := 0) (i := i) (Nat.two_pow_pos i) j
  simpa using this
/-- The lowest bit is taken away. -/
theorem clear_low (i q : Nat) : (2 ^ i * (2 * q + 1)) &&& (2 ^ i * (2 * q + 1) - 1) = 2 ^ i * (2 * q) := by
  apply Nat.eq_of_testBit_eq
  intro j
  have e : 2 ^ i * (2 * q + 1) - 1 = 2 ^ i * (2 * q) + (2 ^ i - 1) := by
    have := Nat.two_pow_pos i
    rw [Nat.mul_add]; omega
  rw [Nat.testBit_and, bits_of, bits_of, e, Nat.testBit_two_pow_mul_add _ (by have := Nat.two_pow_pos i; omega)]
  by_cases h : j < i
  · simp only [if_pos h, Bool.false_and]
  · rw [if_neg h, if_neg h, if_neg h]
    cases hk : j - i with
    | zero => rw [even_bit0]; simp
    | succ k => rw [odd_bit, even_bit, Bool.and_self]
/-- The lowest bit alone. -/
theorem only_low {i q : Nat} (h : 2 ^ i * (2 * q + 1) < 2 ^ 64) : (2 ^ i * (2 * q + 1)) &&& (2 ^ 64 - 2 ^ i * (2 * q + 1)) = 2 ^ i := by
  have hi : i < 64 := by
    refine Nat.lt_of_not_le fun hle => ?_
    have h1 := Nat.pow_le_pow_right (n := 2) (by decide) hle
    have h2 : 2 ^ i * 1 ≤ 2 ^ i * (2 * q + 1) := Nat.mul_le_mul_left _ (by omega)
    omega
  have hp : 2 ^ 64 = 2 ^ i * (2 * 2 ^ (63 - i)) := by
    rw [← Nat.pow_succ', ← Nat.pow_add, show i + (63 - i + 1) = 64 by omega]
  have hq : q < 2 ^ (63 - i) := by
    rw [hp] at h
    have := Nat.lt_of_mul_lt_mul_left h
    omega
  have e : 2 ^ 64 - 2 ^ i * (2 * q + 1) = 2 ^ i * (2 * (2 ^ (63 - i) - (q + 1)) + 1) := by
    rw [hp, ← Nat.mul_sub]
    congr 1; omega
  apply Nat.eq_of_testBit_eq
  intro j
  rw [Nat.testBit_and, e, bits_of, bits_of]
  have e1 : (2 ^ i : Nat).testBit j = if j < i then false else (1 : Nat).testBit (j - i) := by
    have := bits_of i 1 j
    rwa [Nat.mul_one] at this
  rw [e1]
  by_cases h : j < i
  · simp only [if_pos h, Bool.false_and]
  · rw [if_neg h, if_neg h, if_neg h]
    cases hk : j - i with
    | zero => rw [odd_bit0, odd_bit0]; rfl
    | succ k =>
      rw [odd_bit, odd_bit, Nat.testBit_two_pow_sub_succ hq]
      have : (1 : Nat).testBit (k + 1) = false := by simp [Nat.testBit_succ]
      rw [this]
      cases q.testBit k <;> simp

theorem deB : ∀ i : Fin 64, (idx dB64L (ishr .u64 (IntKind.u64.wrap (((2 ^ i.val : Nat) : Int) * 285870213051353865)) 58)) = some ((i.val : Nat) : Int) := by decide +kernel
theorem tz_is {i q : Nat} (h : 2 ^ i * (2 * q + 1) < 2 ^ 64) : fbits_TrailingZeros ((2 ^ i * (2 * q + 1) : Nat) : Int) = some (i : Int) := by
  have hpos : 0 < 2 ^ i * (2 * q + 1) := Nat.mul_pos (Nat.two_pow_pos i) (by omega)
  have hi : i < 64 := by
    refine Nat.lt_of_not_le fun hle => ?_
    have h1 := Nat.pow_le_pow_right (n := 2) (by decide) hle
    have h2 : 2 ^ i * 1 ≤ 2 ^ i * (2 * q + 1) := Nat.mul_le_mul_left _ (by omega)
    omega
  obtain ⟨x, hx⟩ : ∃ x, 2 ^ i * (2 * q + 1) = x := ⟨_, rfl⟩
  have hl := only_low h
  rw [hx] at h hpos hl ⊢
  unfold fbits_TrailingZeros fbits_TrailingZeros64
  rw [if_neg (by simp; omega)]
  have e1 : IntKind.u64.wrap (0 - (x : Int)) = ((2 ^ 64 - x : Nat) : Int) := by rw [u64m]; omega
  rw [e1, iand_nat h (by omega), hl, deB ⟨i, hi⟩]
  simp only [Option.bind_some]
  rw [w64 (by omega) (by omega)]
theorem low_is {i q : Nat} (h : 2 ^ i * (2 * q + 1) < 2 ^ 64) : iand .u64 ((2 ^ i * (2 * q + 1) : Nat) : Int) (IntKind.u64.wrap (((2 ^ i * (2 * q + 1) : Nat) : Int) - 1)) = ((2 ^ i * (2 * q) : Nat) : Int) := by
  have hpos : 0 < 2 ^ i * (2 * q + 1) := Nat.mul_pos (Nat.two_pow_pos i) (by omega)
  obtain ⟨x, hx⟩ : ∃ x, 2 ^ i * (2 * q + 1) = x := ⟨_, rfl⟩
  have hl := clear_low i q
  rw [hx] at h hpos hl ⊢
  have e1 : IntKind.u64.wrap ((x : Int) - 1) = ((x - 1 : Nat) : Int) := by rw [u64w (by omega) (by omega)]; omega
  rw [e1, iand_nat h (by omega), hl]
/-- The first index of a set, and the set without it. -/
theorem num_first {i : Nat} {S : List Nat} (hu : Up (i :: S)) (h : ∀ j ∈ i :: S, j < 64) :
    fbits_TrailingZeros (num (i :: S) : Int) = some (i : Int) ∧ iand .u64 (num (i :: S) : Int) (IntKind.u64.wrap ((num (i :: S) : Int) - 1)) = (num S : Int) := by
  obtain ⟨q, hq⟩ := num_mul (S := S) (k := i + 1) fun j hj => (List.pairwise_cons.1 hu).1 j hj
  have e : num (i :: S) = 2 ^ i * (2 * q + 1) := by rw [num_cons, hq, Nat.pow_succ, Nat.mul_add, Nat.mul_assoc]; omega
  have hlt := num_lt hu h
  rw [e] at hlt ⊢
  have e2 : num S = 2 ^ i * (2 * q) := by rw [hq, Nat.pow_succ, Nat.mul_assoc]
  rw [e2]
  exact ⟨tz_is hlt, low_is hlt⟩
/-- A loop over the indices of a set. -/
theorem bits_loop {α : Type} (S : List Nat) (hu : Up S) (h : ∀ j ∈ S, j < 64) (g : Nat → α) {body : Int × List α → Option ((Int × List α) ⊕ List α)}
    (hb : ∀ (i : Nat) (T : List Nat) (acc : List α), i ∈ S → acc.length ≤ S.length → Up (i :: T) → (∀ j ∈ i :: T, j < 64) → body ((num (i :: T) : Int), acc) = some (.inl ((num T : Int), acc ++ [g i])))
    (he : ∀ acc, body ((0 : Int), acc) = some (.inr acc)) : tailrec body ((num S : Int), []) = some (S.map g) := by
  have := tailrec_for (body := body) S.length (fun k => ((num (S.drop k) : Int), (S.take k).map g)) (S.map g) (fun k hk => ?_) ?_
  · simpa using this
  · have e : S.drop k = S[k] :: S.drop (k + 1) := List.drop_eq_getElem_cons hk
    rw [e, hb S[k] (S.drop (k + 1)) _ (List.getElem_mem hk) (by simp; omega), ← take_map_succ g S hk]
    · rw [← e]; exact List.Pairwise.sublist (List.drop_sublist _ _) hu
    · intro j hj
      rw [← e] at hj
      exact h j (List.mem_of_mem_drop hj)
  · rw [List.drop_length, List.take_length]
    exact he _

end Go.Proofs.YtcdccjagknlmpaaGreatDoor
