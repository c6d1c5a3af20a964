/- Package learn and its reference: what the Lean functions of the translation give. No condition. -/
import Derived.Test.YtjniiejgccdhiaaGenF
import Derived.Test.YtjniiejgccdhiaaPlain
namespace Go.Proofs.Ytjniiejgccdhiaa
open Go.Sim

theorem around_is (n most : Int) (hn : I64 n) (hm : 1 ≤ most) : ∃ r, fAround n most = some r ∧ 0 ≤ r ∧ r < most := by
  unfold I64 at hn
  have key : ∀ m : Int, 0 ≤ m → ∃ r, (if (decide (most < (1:Int))) = true then (some (0:Int)) else (nz most).bind fun _ => (some (Int.tmod m most))) = some r ∧ 0 ≤ r ∧ r < most := by
    intro m h
    rw [if_neg (by simp; omega), nz_of (by omega)]
    exact ⟨_, rfl, Int.tmod_nonneg _ h, Int.tmod_lt_of_pos _ (by omega)⟩
  unfold fAround
  by_cases h : n < 0
  · rw [if_pos (by simpa using h), w64 (n := n + 1) (by omega) (by omega), w64 (by omega) (by omega)]
    exact key _ (by omega)
  · rw [if_neg (by simpa using h)]
    exact key _ (by omega)
theorem around_low (n most : Int) (hm : most < 1) : fAround n most = some 0 := by
  unfold fAround
  by_cases h : n < 0
  · rw [if_pos (by simpa using h)]; exact if_pos (by simpa using hm)
  · rw [if_neg (by simpa using h)]; exact if_pos (by simpa using hm)

theorem at_is (l : List Int) (i most : Int) (hl : ∀ x ∈ l, I64 x) (hm : 1 ≤ most) : ∃ r, fAt l i most = some r ∧ 0 ≤ r ∧ r < most := by
  unfold fAt
  by_cases h : ((decide (i < (0:Int))) || (decide (i ≥ (l.length : Int)))) = true
  · rw [if_pos h]; exact ⟨0, rfl, by omega, by omega⟩
  · rw [if_neg h]
    simp only [Bool.or_eq_true, decide_eq_true_eq, not_or] at h
    rw [idx_int _ (by omega), List.getElem?_eq_getElem (by omega)]
    obtain ⟨r, h1, h2⟩ := around_is l[i.toNat] most (hl _ (List.getElem_mem _)) hm
    exact ⟨r, by simp [h1], h2⟩

theorem sumR_wrap (l : List Int) (hl : l.length < 1000000) : fSumR l = some (IntKind.i64.wrap l.sum) := by
  unfold fSumR
  refine for_bind l.length (fun k => ((k : Int), IntKind.i64.wrap (l.take k).sum) : Nat → Int × Int) (IntKind.i64.wrap l.sum) ?_ ?_ ?_ rfl
  · simp [w64_zero]
  · intro k hk
    simp only
    rw [if_pos (by simpa using hk), idx_lt hk]
    simp only [Option.bind_some, Option.some.injEq, Sum.inl.injEq, Prod.mk.injEq]
    exact ⟨w64_succ hk (by omega), by rw [w64_add, sum_take_succ l hk]⟩
  · simp
theorem sumR_is {l : List Int} (hl : l.length ≤ 100) {B : Int} (h : Sm l B) (hB : B ≤ 70000000000000000) (h0 : 0 ≤ B) : fSumR l = some l.sum := by
  have h1 := h.sum
  have h2 := h.sum_le hl h0
  rw [sumR_wrap l (by omega), w64 (by omega) (by omega)]
theorem sum_eq (l : List Int) : fsum l = fSumR l := rfl
theorem sum_is {l : List Int} (hl : l.length ≤ 100) {B : Int} (h : Sm l B) (hB : B ≤ 70000000000000000) (h0 : 0 ≤ B) : fsum l = some l.sum := by rw [sum_eq]; exact sumR_is hl h hB h0

/-! Within -/

def wi (l : List Int) (m : Int) : Bool := (decide ((l.length : Int) ≥ 1) && decide ((l.length : Int) ≤ 12)) && l.all (fun x => decide (0 ≤ x) && decide (x ≤ m))
theorem wi_iff {l : List Int} {m : Int} : wi l m = true ↔ 1 ≤ l.length ∧ l.length ≤ 12 ∧ Sm l m := by
  simp only [wi, Bool.and_eq_true, decide_eq_true_eq, List.all_eq_true, Sm]
  constructor
  · rintro ⟨⟨h1, h2⟩, h3⟩; exact ⟨by omega, by omega, h3⟩
  · rintro ⟨h1, h2, h3⟩; exact ⟨⟨by omega, by omega⟩, h3⟩

theorem withinR_is (l : List Int) (m : Int) (hl : l.length < 1000000) : fWithinR l m = some (wi l m) := by
  unfold fWithinR
  refine scan_bind l.length (fun k => !(decide (0 ≤ l.getD k 0) && decide (l.getD k 0 ≤ m))) (.inl ()) (fun _ => .inr false) ?_ ?_ ?_ ?_ ?_
  · intro k hk hp
    rw [List.getD_eq_getElem?_getD, List.getElem?_eq_getElem hk] at hp
    simp only [Option.getD_some, Bool.not_eq_false', Bool.and_eq_true, decide_eq_true_eq] at hp
    rw [if_pos (by simpa using hk), idx_lt hk]
    simp only [Option.bind_some]
    have h0 : decide (l[k] < 0) = false := by simpa using hp.1
    rw [h0]
    simp only [beq_self_eq_true, opt_true, Option.bind_some, Bool.false_or]
    rw [if_neg (by simpa using hp.2), w64_succ hk (by omega)]
  · intro k hk hp
    rw [List.getD_eq_getElem?_getD, List.getElem?_eq_getElem hk] at hp
    simp only [Option.getD_some, Bool.not_eq_true', Bool.and_eq_false_iff, decide_eq_false_iff_not] at hp
    rw [if_pos (by simpa using hk), idx_lt hk]
    simp only [Option.bind_some]
    by_cases h0 : l[k] < 0
    · have h0' : decide (l[k] < 0) = true := by simpa using h0
      rw [h0']
      rfl
    · have h0' : decide (l[k] < 0) = false := by simpa using h0
      rw [h0']
      simp only [beq_self_eq_true, opt_true, Option.bind_some, Bool.false_or]
      rw [if_pos (by simp; omega)]
  · rw [if_neg (by simp)]
  · intro hp
    have : l.all (fun x => decide (0 ≤ x) && decide (x ≤ m)) = true := by
      rw [List.all_eq_true]
      intro x hx
      obtain ⟨k, hk, rfl⟩ := List.getElem_of_mem hx
      have := hp k hk
      rw [List.getD_eq_getElem?_getD, List.getElem?_eq_getElem hk] at this
      simpa using this
    simp [wi, this]
  · intro k hk hp
    have : l.all (fun x => decide (0 ≤ x) && decide (x ≤ m)) = false := by
      rw [List.all_eq_false]
      refine ⟨l[k], List.getElem_mem hk, ?_⟩
      rw [List.getD_eq_getElem?_getD, List.getElem?_eq_getElem hk] at hp
      simpa [Decidable.imp_iff_not_or] using hp
    simp [wi, this]

theorem containsI_is (l : List Int) (m : Int) (hl : l.length < 1000000) : fContainsI l (fun x => fwithin1 x m) = some (!l.all (fun x => decide (0 ≤ x) && decide (x ≤ m))) := by
  unfold fContainsI fIndexI
  rw [Option.bind_assoc]
  refine scan_bind l.length (fun k => !(decide (0 ≤ l.getD k 0) && decide (l.getD k 0 ≤ m))) (.inl ()) (fun k => .inr (k : Int)) ?_ ?_ ?_ ?_ ?_
  · intro k hk hp
    rw [List.getD_eq_getElem?_getD, List.getElem?_eq_getElem hk] at hp
    simp only [Option.getD_some, Bool.not_eq_false', Bool.and_eq_true, decide_eq_true_eq] at hp
    simp only
    rw [if_pos (by simpa using hk), idx_lt hk]
    simp only [Option.bind_some, fwithin1]
    rw [if_neg (by simp; omega), w64_succ hk (by omega)]
  · intro k hk hp
    rw [List.getD_eq_getElem?_getD, List.getElem?_eq_getElem hk] at hp
    simp only [Option.getD_some, Bool.not_eq_true', Bool.and_eq_false_iff, decide_eq_false_iff_not] at hp
    simp only
    rw [if_pos (by simpa using hk), idx_lt hk]
    simp only [Option.bind_some, fwithin1]
    rw [if_pos (by simp; omega)]
  · rw [if_neg (by simp)]
  · intro hp
    have : l.all (fun x => decide (0 ≤ x) && decide (x ≤ m)) = true := by
      rw [List.all_eq_true]
      intro x hx
      obtain ⟨k, hk, rfl⟩ := List.getElem_of_mem hx
      have := hp k hk
      rw [List.getD_eq_getElem?_getD, List.getElem?_eq_getElem hk] at this
      simpa using this
    rw [this]; rfl
  · intro k hk hp
    have : l.all (fun x => decide (0 ≤ x) && decide (x ≤ m)) = false := by
      rw [List.all_eq_false]
      refine ⟨l[k], List.getElem_mem hk, ?_⟩
      rw [List.getD_eq_getElem?_getD, List.getElem?_eq_getElem hk] at hp
      simpa [Decidable.imp_iff_not_or] using hp
    rw [this]; simp

theorem within_is (l : List Int) (m : Int) (hl : l.length < 1000000) : fwithin l m = some (wi l m) := by
  unfold fwithin
  rw [containsI_is l m hl]
  unfold wi
  cases (decide ((l.length : Int) ≥ 1) && decide ((l.length : Int) ≤ 12)) with
  | true => simp [opt_true]
  | false => simp [opt_false]

/-! Greatest common divisors -/

theorem ggcd1_nat : ∀ (n a b : Nat), b < n → ggcd1 n (a : Int) (b : Int) = some ((Nat.gcd a b : Nat) : Int) := by
  intro n
  induction n with
  | zero => intro a b h; omega
  | succ n ih =>
    intro a b h
    show fgcd1S (ggcd1 n) a b = _
    unfold fgcd1S
    by_cases hb : b = 0
    · subst hb; simp
    · rw [if_neg (by simpa using hb), nz_of (by omega)]
      simp only [Option.bind_some]
      have e : Int.tmod (a : Int) (b : Int) = ((a % b : Nat) : Int) := by rw [Int.tmod_eq_emod_of_nonneg (by omega)]; rfl
      rw [e, ih b (a % b) (by have := Nat.mod_lt a (Nat.pos_of_ne_zero hb); omega)]
      simp only [Option.bind_some]
      rw [gcd_step]
theorem gcd1_nat (a b : Nat) : fgcd1 (a : Int) (b : Int) = some ((Nat.gcd a b : Nat) : Int) := ggcd1_nat _ a b (by simp)
theorem ggcdU1_nat : ∀ (n a b : Nat), b < n → ggcdU1 n (a : Int) (b : Int) = some ((Nat.gcd a b : Nat) : Int) := by
  intro n
  induction n with
  | zero => intro a b h; omega
  | succ n ih =>
    intro a b h
    show fgcdU1S (ggcdU1 n) a b = _
    unfold fgcdU1S
    by_cases hb : b = 0
    · subst hb; simp
    · rw [if_neg (by simpa using hb), nz_of (by omega)]
      simp only [Option.bind_some]
      have e : Int.tmod (a : Int) (b : Int) = ((a % b : Nat) : Int) := by rw [Int.tmod_eq_emod_of_nonneg (by omega)]; rfl
      rw [e, ih b (a % b) (by have := Nat.mod_lt a (Nat.pos_of_ne_zero hb); omega)]
      simp only [Option.bind_some]
      rw [gcd_step]
theorem gcdU_nat (a b : Nat) : fgcdU (a : Int) (b : Int) = some ((Nat.gcd a b : Nat) : Int) := by
  unfold fgcdU fgcdU1; rw [ggcdU1_nat _ a b (by simp)]; rfl
theorem gcdLoop_nat (body : Int × Int → Option ((Int × Int) ⊕ Int)) (h0 : ∀ a : Nat, body ((a : Int), 0) = some (.inr (a : Int))) (h1 : ∀ a b : Nat, 0 < b → body ((a : Int), (b : Int)) = some (.inl ((b : Int), ((a % b : Nat) : Int)))) :
    ∀ (n a b : Nat), b < n → tailrec body ((a : Int), (b : Int)) = some ((Nat.gcd a b : Nat) : Int) := by
  intro n
  induction n with
  | zero => intro a b h; omega
  | succ n ih =>
    intro a b h
    rw [tailrec_eq]
    by_cases hb : b = 0
    · subst hb
      rw [show ((0 : Nat) : Int) = 0 from rfl, h0]; simp
    · rw [h1 a b (by omega)]
      simp only
      rw [ih b (a % b) (by have := Nat.mod_lt a (Nat.pos_of_ne_zero hb); omega), gcd_step]
theorem gcdR_nat (a b : Nat) : fGcdR (a : Int) (b : Int) = some ((Nat.gcd a b : Nat) : Int) := by
  unfold fGcdR
  rw [gcdLoop_nat _ ?_ ?_ (b + 1) a b (by omega)]
  · rfl
  · intro a; simp
  · intro a b hb
    simp only
    rw [if_pos (by simpa using hb), nz_of (by omega)]
    simp only [Option.bind_some]
    rw [Int.tmod_eq_emod_of_nonneg (by omega)]; rfl
theorem common_nat (a b : Nat) : fCommon (a : Int) (b : Int) = some ((Nat.gcd a b : Nat) : Int) := by
  unfold fCommon
  rw [gcdLoop_nat _ ?_ ?_ (b + 1) a b (by omega)]
  · rfl
  · intro a; simp
  · intro a b hb
    simp only
    rw [if_pos (by simp; omega), nz_of (by omega)]
    simp only [Option.bind_some]
    rw [Int.tmod_eq_emod_of_nonneg (by omega)]; rfl

theorem lg_take_succ (l : List Int) {k : Nat} (h : k < l.length) : lg (l.take (k + 1)) = Nat.gcd l[k].toNat (lg (l.take k)) := by
  unfold lg
  rw [List.take_succ_eq_append_getElem h, List.foldl_append]; rfl
theorem gcd_is {l : List Int} {B : Int} (h : Sm l B) (hl : l.length < 1000000) : fgcd l = some ((lg l : Nat) : Int) := by
  unfold fgcd
  refine for_bind l.length (fun k => ((k : Int), ((lg (l.take k) : Nat) : Int)) : Nat → Int × Int) ((lg l : Nat) : Int) ?_ ?_ ?_ rfl
  · simp [lg]
  · intro k hk
    simp only
    rw [if_pos (by simpa using hk), idx_lt hk]
    have e : l[k] = ((l[k].toNat : Nat) : Int) := (Int.toNat_of_nonneg (h _ (List.getElem_mem hk)).1).symm
    simp only [Option.bind_some]
    rw [lg_take_succ l hk]
    rw [e, gcd1_nat]
    simp only [Option.bind_some, Option.some.injEq, Sum.inl.injEq, Prod.mk.injEq]
    exact ⟨w64_succ hk (by omega), by rw [Int.toNat_natCast]⟩
  · simp
end Go.Proofs.Ytjniiejgccdhiaa
