/- Counts: the generators of limits and of numbers give a result; Holds, both ways. No condition. -/
import Derived.Test.YtcdccjagknlmpaaGreatDoorGenAll
import Derived.Test.YtcdccjagknlmpaaGreatDoorOk
namespace Go.Proofs.YtcdccjagknlmpaaGreatDoor
open Go.Sim

theorem QvP {p n : Int} (hp : I64 p) : Ok (Qbn p n) (fun r => 0 ≤ r ∧ (1 ≤ n → r < n)) := by
 have hp' := hp
 unfold I64 at hp'
 have key : ∀ q : Int, 0 ≤ q → Ok (if decide (n < 1) = true then some 0 else (nz n).bind fun _ => some (Int.tmod q n)) (fun r => 0 ≤ r ∧ (1 ≤ n → r < n)) := fun q hq => by
  refine Ok.ite (fun h => ?_) (fun h => ?_)
  ·have : n < 1 := of_decide_eq_true h
   exact Ok.mk ⟨Int.le_refl _, fun h => by omega⟩
  ·have : ¬ n < 1 := of_decide_eq_false h
   rw [QrI (by omega)]
   exact Ok.mk ⟨Int.tmod_nonneg _ hq, fun _ => Int.tmod_lt_of_pos _ (by omega)⟩
 unfold Qbn
 refine Ok.bind (P := fun q => 0 ≤ q) (Ok.ite (fun h => ?_) (fun h => ?_)) (fun q hq => key q hq)
 ·have : p < 0 := of_decide_eq_true h
  refine Ok.mk ?_
  have e1 : IntKind.i64.wrap (p + 1) = p + 1 := w64 (by omega) (by omega)
  rw [e1, w64 (by omega) (by omega)]; omega
 ·have : ¬ p < 0 := of_decide_eq_false h
  exact Ok.mk (by omega)
section
variable {β : Type} {Q : β → Prop}
theorem Ok.arnd {p n : Int} {f : Int → Option β} (hp : I64 p) (hn : 1 ≤ n) (k : ∀ r, 0 ≤ r → r < n → Ok (f r) Q) : Ok ((Qbn p n).bind f) Q :=
 (QvP hp).bind fun r h => k r h.1 (h.2 hn)
theorem at_ok {l : List Int} {i n : Int} (hl : ∀ x ∈ l, I64 x) (hn : 1 ≤ n) : Ok (Qe4 l i n) (fun r => 0 ≤ r ∧ r < n) := by
 unfold Qe4
 refine Ok.ite (fun h => Ok.mk ⟨Int.le_refl _, by omega⟩) (fun h => ?_)
 simp only [Bool.or_eq_false_iff, decide_eq_false_iff_not] at h
 refine Ok.idx (by omega) (by omega) fun v hv _ => ?_
 exact Ok.arnd (hl v hv) hn fun r h0 h1 => Ok.mk ⟨h0, h1⟩
theorem Ok.at1 {l : List Int} {i n : Int} {f : Int → Option β} (hl : ∀ x ∈ l, I64 x) (hn : 1 ≤ n) (k : ∀ r, 0 ≤ r → r < n → Ok (f r) Q) : Ok ((Qe4 l i n).bind f) Q :=
 (at_ok hl hn).bind fun r h => k r h.1 h.2
end
theorem QsI {l : List Int} {n : Int} (hl : ∀ x ∈ l, I64 x) (h0 : 0 ≤ n) (hn : n ≤ 1000) : Ok (QgI l n) (fun r => (r.length : Int) = n ∧ ∀ x ∈ r, 0 ≤ x ∧ x < 12) := by
 unfold QgI
 refine Ok.bind (P := fun r : List Int => (r.length : Int) = n ∧ ∀ x ∈ r, 0 ≤ x ∧ x < 12) (Ok.loop (fun m s => s.1 = s.2.length ∧ s.1 + m = n ∧ ∀ x ∈ s.2, 0 ≤ x ∧ x < 12) n.toNat ⟨rfl, by simp; omega, fun x hx => by cases hx⟩ fun m s hs => ?_) (fun r hr => Ok.mk hr)
 obtain ⟨h1, h2, h3⟩ := hs
 refine Ok.ite (fun h => ?_) (fun h => ?_)
 ·have h : s.1 < n := of_decide_eq_true h
  refine Ok.at1 hl (by decide) fun r r0 r1 => ?_
  refine Ok.rm (by simp; omega) (Ok.mk ⟨m - 1, by omega, ?_, ?_, ?_⟩)
  ·rw [w64 (by omega) (by omega)]; simp; omega
  ·rw [w64 (by omega) (by omega)]; omega
  ·intro x hx
   rcases List.mem_append.1 hx with hx | hx
   ·exact h3 x hx
   ·rw [List.mem_singleton.1 hx]; exact ⟨r0, r1⟩
 ·have h : ¬ s.1 < n := of_decide_eq_false h
  exact Ok.mk ⟨by omega, h3⟩

/-! Holds -/

def QgJ (l : Qb) (n : Int) : Bool := (((((decide (l.A ≥ 0)) && (decide (l.A < n))) && (decide (l.B ≥ -1))) && (decide (l.B < n))) && (decide (l.Mul ≥ 0))) && (decide (l.Mul ≤ 65536))
def isN (x : Int) : Bool := decide (0 ≤ x) && decide (x ≤ 65536)
def numL (c : List Int) : Bool := c.all isN
def nth (c : List Int) (i : Int) : Int := c.getD i.toNat 0
def bndS (l : Qb) (c : List Int) : Int := if l.B < 0 then l.Mul else l.Mul * nth c l.B
def Qcc (l : Qb) (c : List Int) : Bool := if l.Least = true then decide (nth c l.A ≥ bndS l c) else decide (nth c l.A ≤ bndS l c)
def QgK (l : Qb) (c : List Int) : Bool := (QgJ l c.length && numL c) && Qcc l c

structure VL (l : Qb) (n : Int) : Prop where
 a0 : 0 ≤ l.A
 a1 : l.A < n
 b0 : -1 ≤ l.B
 b1 : l.B < n
 m0 : 0 ≤ l.Mul
 m1 : l.Mul ≤ 65536
theorem Qi1 {l : Qb} {n : Int} : QgJ l n = true ↔ VL l n := by
 simp only [QgJ, Bool.and_eq_true, decide_eq_true_eq]
 exact ⟨fun ⟨⟨⟨⟨⟨h1, h2⟩, h3⟩, h4⟩, h5⟩, h6⟩ => ⟨h1, h2, h3, h4, h5, h6⟩, fun h => ⟨⟨⟨⟨⟨h.a0, h.a1⟩, h.b0⟩, h.b1⟩, h.m0⟩, h.m1⟩⟩
theorem Qq9 {x : Int} : isN x = true ↔ 0 ≤ x ∧ x ≤ 65536 := by simp [isN]
theorem Qt2 {c : List Int} : numL c = true ↔ ∀ x ∈ c, 0 ≤ x ∧ x ≤ 65536 := by
 unfold numL
 rw [List.all_eq_true]
 exact ⟨fun h x hx => Qq9.1 (h x hx), fun h x hx => Qq9.2 (h x hx)⟩
theorem QfE {c : List Int} {i : Int} (h0 : 0 ≤ i) (h1 : i < c.length) : idx c i = some (nth c i) := by
 have hlt : i.toNat < c.length := by omega
 rw [Qib c h0, List.getElem?_eq_getElem hlt]
 unfold nth
 rw [List.getD_eq_getElem?_getD, List.getElem?_eq_getElem hlt]
 rfl
theorem QvQ {c : List Int} {i : Int} (h0 : 0 ≤ i) (h1 : i < c.length) : nth c i ∈ c := by
 have hlt : i.toNat < c.length := by omega
 unfold nth
 rw [List.getD_eq_getElem?_getD, List.getElem?_eq_getElem hlt]
 exact List.getElem_mem hlt
theorem Qof {c : List Int} {i : Int} (hc : ∀ x ∈ c, 0 ≤ x ∧ x ≤ 65536) (h0 : 0 ≤ i) (h1 : i < c.length) : 0 ≤ nth c i ∧ nth c i ≤ 65536 := hc _ (QvQ h0 h1)
theorem Qra {a b : Int} (a0 : 0 ≤ a) (a1 : a ≤ 65536) (b0 : 0 ≤ b) (b1 : b ≤ 65536) : 0 ≤ a * b ∧ a * b ≤ 4294967296 :=
 ⟨Int.mul_nonneg a0 b0, Int.le_trans (Int.mul_le_mul a1 b1 b0 (by decide)) (by decide)⟩
theorem Qp5 {l : Qb} {c : List Int} (hv : VL l c.length) (hc : ∀ x ∈ c, 0 ≤ x ∧ x ≤ 65536) : QaF l c = some (bndS l c) := by
 unfold QaF bndS
 by_cases hb : l.B < 0
 ·rw [if_pos (by simpa using hb), if_pos hb]
 ·have hb0 : 0 ≤ l.B := by omega
  rw [if_neg (by simpa using hb), if_neg hb, QfE hb0 hv.b1]
  have hm := Qra hv.m0 hv.m1 (Qof hc hb0 hv.b1).1 (Qof hc hb0 hv.b1).2
  show some (IntKind.i64.wrap (l.Mul * nth c l.B)) = _
  rw [w64 (by omega) (by omega)]
theorem Qp6 {l : Qb} {c : List Int} (hv : VL l c.length) (hc : ∀ x ∈ c, 0 ≤ x ∧ x ≤ 65536) : Qbi l c = some (Qcc l c) := by
 unfold Qbi Qcc
 rw [QfE hv.a0 hv.a1, Qp5 hv hc]
 cases l.Least <;> rfl

/-- The index of the first element that is so; -1: none is. -/
def fIx {α : Type} (s : List α) (p : α → Bool) : Int := match s.findIdx? p with | some k => (k : Int) | none => -1
theorem Qrb {α : Type} (s : List α) (p : α → Bool) : decide (fIx s p ≥ 0) = s.any p := by
 unfold fIx
 cases h : s.findIdx? p with
 | none =>
  rw [List.findIdx?_eq_none_iff] at h
  have : s.any p = false := by rw [List.any_eq_false]; intro x hx; simpa using h x hx
  rw [this]; rfl
 | some k =>
  obtain ⟨hk, hp, _⟩ := List.findIdx?_eq_some_iff_getElem.1 h
  have : s.any p = true := List.any_eq_true.2 ⟨_, List.getElem_mem hk, hp⟩
  rw [this]
  exact decide_eq_true (Int.natCast_nonneg k)
theorem QnH {α : Type} (s : List α) (p : α → Bool) {body : Int → Option (Int ⊕ (Unit ⊕ Int))}
  (hb : ∀ k (h : k < s.length), body (k : Int) = if p s[k] = true then some (.inr (.inr (k : Int))) else some (.inl ((k + 1 : Nat) : Int))) (he : body (s.length : Int) = some (.inr (.inl ()))) :
  QI body (0 : Int) = some (match s.findIdx? p with | some k => .inr (k : Int) | none => .inl ()) := by
 obtain ⟨q, hq⟩ : ∃ q : Nat → Bool, ∀ k (h : k < s.length), q k = p s[k] := ⟨fun k => if h : k < s.length then p s[k] else false, fun k h => dif_pos h⟩
 rcases QlJ (ρ := Unit ⊕ Int) s.length q (.inl ()) (fun k => .inr (k : Int))
  (fun k hk hp => by rw [hb k hk, if_neg (by rw [← hq k hk, hp]; decide)]) (fun k hk hp => by rw [hb k hk, if_pos (by rw [← hq k hk, hp])]) he with ⟨k, hk, hp, hj, e⟩ | ⟨hp, e⟩
 ·have : s.findIdx? p = some k := by
   rw [List.findIdx?_eq_some_iff_getElem]
   refine ⟨hk, by rw [← hq k hk, hp], fun j hj' => ?_⟩
   have := hj j hj'
   rw [hq j (by omega)] at this
   simp [this]
  rw [e, this]
 ·have : s.findIdx? p = none := by
   rw [List.findIdx?_eq_none_iff]
   intro x hx
   obtain ⟨k, hk, rfl⟩ := List.getElem_of_mem hx
   have := hp k hk
   rwa [hq k hk] at this
  rw [e, this]
theorem QsJ {s : List Int} {f : Int → Option Bool} {p : Int → Bool} (hs : s.length ≤ 1000000) (hf : ∀ x ∈ s, f x = some (p x)) : QaD s f = some (s.any p) := by
 unfold QaD QbK
 rw [QnH s p (fun k hk => ?_) ?_]
 ·rw [← Qrb]; unfold fIx; cases s.findIdx? p <;> rfl
 ·rw [if_neg (by simp)]
 ·rw [if_pos (by simpa using hk), Qak hk]
  show (f s[k]).bind _ = _
  rw [hf _ (List.getElem_mem hk), Qab hk (by omega)]; rfl
theorem QvR (c : List Int) : (c.any fun x => !isN x) = !numL c := by
 unfold numL
 rw [List.all_eq_not_any_not]
 simp
theorem Qt3 {l : Qb} {c : List Int} (hc : c.length ≤ 1000000) : QbZ l c = some (QgK l c) := by
 unfold QbZ
 have h1 : QbD l (c.length : Int) = some (QgJ l c.length) := rfl
 rw [h1]
 simp only [Option.bind_some]
 unfold QgK
 cases hv : QgJ l c.length with
 | false => rfl
 | true =>
  rw [show (true == true) = true from rfl, Qfg, QsJ (f := fun x0 => Qdt x0) (p := fun x => !isN x) hc (fun x _ => rfl)]
  simp only [Option.bind_some, QvR, Bool.not_not, Bool.true_and]
  cases hn : numL c with
  | false => rfl
  | true =>
   rw [show (true == true) = true from rfl, Qfg, Qp6 (Qi1.1 hv) (Qt2.1 hn)]
   rfl
end Go.Proofs.YtcdccjagknlmpaaGreatDoor

namespace Go.Proofs.YtcdccjagknlmpaaGreatDoor
open Go.Sim

theorem Qrc : ∀ (l : List Int) (k : Nat) (h : k < l.length) (n : Int), (l.set k n).sum = l.sum + n - l[k]
 | x :: l, 0, _, n => by simp; omega
 | x :: l, k + 1, h, n => by
  have := Qrc l k (by simpa using h) n
  simp only [List.set_cons_succ, List.sum_cons, List.getElem_cons_succ, this]
  omega
theorem QvS {l : List Int} {k : Nat} (h : k < l.length) : nth l (k : Int) = l[k] := by simp [nth, List.getD_eq_getElem?_getD, h]
theorem QvT {l : List Int} {i j n : Int} (hi : 0 ≤ i) (hj : 0 ≤ j) (h : i < l.length) : nth (l.set i.toNat n) j = if i = j then n else nth l j := by
 obtain ⟨a, rfl⟩ := Int.eq_ofNat_of_zero_le hi
 obtain ⟨b, rfl⟩ := Int.eq_ofNat_of_zero_le hj
 unfold nth
 simp only [Int.toNat_natCast, List.getD_eq_getElem?_getD, List.getElem?_set]
 by_cases e : a = b
 ·subst e; have : a < l.length := by omega
  simp [this]
 ·have e' : ¬ ((a : Int) = (b : Int)) := by omega
  rw [if_neg e, if_neg e']

/-- Six numbers. -/
structure Vec (v : List Int) : Prop where
 len : v.length = 6
 num : ∀ z ∈ v, 0 ≤ z ∧ z ≤ 65536
def VLe (v x : List Int) : Prop := ∀ i, 0 ≤ i → i < 6 → nth v i ≤ nth x i
structure Sol (L : List Qb) (x : List Int) : Prop where
 vec : Vec x
 keep : ∀ y ∈ L, Qcc y x = true
def Sat (L : List Qb) : Prop := ∃ x, Sol L x
theorem Sat.sub {L M : List Qb} (h : Sat L) (hs : ∀ y ∈ M, y ∈ L) : Sat M := by
 obtain ⟨x, hx⟩ := h
 exact ⟨x, hx.vec, fun y hy => hx.keep y (hs y hy)⟩
theorem Vec.nth {v : List Int} (h : Vec v) {i : Int} (h0 : 0 ≤ i) (h1 : i < 6) : 0 ≤ nth v i ∧ nth v i ≤ 65536 := Qof h.num h0 (by rw [h.len]; exact h1)
theorem Vec.set {v : List Int} (h : Vec v) {k n : Int} (n0 : 0 ≤ n) (n1 : n ≤ 65536) : Vec (v.set k.toNat n) := ⟨by simp [h.len], fun z hz => by
 rcases List.mem_or_eq_of_mem_set hz with hz | rfl
 ·exact h.num z hz
 ·exact ⟨n0, n1⟩⟩
theorem Vec.sum {v : List Int} (h : Vec v) : 0 ≤ v.sum ∧ v.sum ≤ 393216 := by
 have := Sm.sum (l := v) (B := 65536) h.num
 rw [h.len] at this
 omega

/-- The least number of a kind that a limit demands. -/
def dem (y : Qb) (v : List Int) : Int × Int :=
 if y.B < 0 ∧ y.Least = true then (y.A, y.Mul) else if y.Least = true then (y.A, y.Mul * nth v y.B) else if 0 ≤ y.B ∧ 0 < y.Mul then (y.B, (nth v y.A + y.Mul - 1) / y.Mul) else (y.A, 0)
theorem Qrd {a m x : Int} (hm : 0 < m) : (a + m - 1) / m ≤ x ↔ a ≤ m * x := by
 constructor
 ·intro h
  have h1 := Int.lt_mul_ediv_self_add (x := a + m - 1) hm
  have h2 : m * ((a + m - 1) / m) ≤ m * x := Int.mul_le_mul_of_nonneg_left h (by omega)
  omega
 ·intro h
  have h1 : (a + m - 1) / m < x + 1 := by
   rw [Int.ediv_lt_iff_lt_mul hm, Int.add_mul, Int.one_mul, Int.mul_comm x m]
   omega
  omega
theorem Qp7 {y : Qb} {v : List Int} (hy : VL y 6) (hv : Vec v) : 0 ≤ (dem y v).1 ∧ (dem y v).1 < 6 ∧ 0 ≤ (dem y v).2 := by
 have := hy.a0; have := hy.a1; have := hy.b0; have := hy.b1; have := hy.m0
 unfold dem
 split
 ·exact ⟨hy.a0, hy.a1, hy.m0⟩
 ·split
  ·refine ⟨hy.a0, hy.a1, ?_⟩
   by_cases hb : 0 ≤ y.B
   ·exact Int.mul_nonneg hy.m0 (hv.nth hb hy.b1).1
   ·rename_i h1 h2
    exact absurd ⟨by omega, h2⟩ h1
  ·split
   ·rename_i h
    exact ⟨h.1, hy.b1, Int.ediv_nonneg (by have := (hv.nth hy.a0 hy.a1).1; omega) (by omega)⟩
   ·exact ⟨hy.a0, hy.a1, Int.le_refl _⟩
theorem QsK {y : Qb} {v x : List Int} (hy : VL y 6) (hx : Vec x) (hk : Qcc y x = true) (hle : VLe v x) : (dem y v).2 ≤ nth x (dem y v).1 := by
 have := hy.a0; have := hy.a1; have := hy.b0; have := hy.b1; have := hy.m0
 unfold Qcc bndS at hk
 unfold dem
 split
 ·rename_i h
  rw [if_pos h.2, if_pos h.1] at hk
  simpa using hk
 ·rename_i h0
  split
  ·rename_i h
   have hb : ¬ y.B < 0 := fun hb => h0 ⟨hb, h⟩
   rw [if_pos h, if_neg hb] at hk
   have h1 : y.Mul * nth v y.B ≤ y.Mul * nth x y.B := Int.mul_le_mul_of_nonneg_left (hle _ (by omega) hy.b1) hy.m0
   have h2 : nth x y.A ≥ y.Mul * nth x y.B := of_decide_eq_true hk
   show y.Mul * nth v y.B ≤ nth x y.A
   omega
  ·rename_i hL
   split
   ·rename_i h
    rw [if_neg hL, if_neg (by omega)] at hk
    have h2 : nth x y.A ≤ y.Mul * nth x y.B := of_decide_eq_true hk
    have h3 := hle _ hy.a0 hy.a1
    show (nth v y.A + y.Mul - 1) / y.Mul ≤ nth x y.B
    exact (Qrd h.2).2 (by omega)
   ·exact (hx.nth hy.a0 hy.a1).1
theorem Qt4 {y : Qb} {v x : List Int} (hy : VL y 6) (hx : Qcc y x = true) (hle : VLe v x) (hd : (dem y v).2 ≤ nth v (dem y v).1) : Qcc y v = true := by
 have := hy.a0; have := hy.a1; have := hy.b0; have := hy.b1; have := hy.m0
 have ha := hle _ hy.a0 hy.a1
 unfold dem at hd
 unfold Qcc bndS at *
 by_cases hL : y.Least = true
 ·rw [if_pos hL]
  by_cases hb : y.B < 0
  ·rw [if_pos ⟨hb, hL⟩] at hd
   rw [if_pos hb]; exact decide_eq_true hd
  ·rw [if_neg (fun h => hb h.1), if_pos hL] at hd
   rw [if_neg hb]; exact decide_eq_true hd
 ·rw [if_neg (fun h => hL h.2), if_neg hL] at hd
  rw [if_neg hL] at hx ⊢
  by_cases hb : y.B < 0
  ·rw [if_pos hb] at hx ⊢
   have hx : nth x y.A ≤ y.Mul := of_decide_eq_true hx
   exact decide_eq_true (by omega)
  ·rw [if_neg hb] at hx ⊢
   have hx : nth x y.A ≤ y.Mul * nth x y.B := of_decide_eq_true hx
   by_cases hm : 0 < y.Mul
   ·rw [if_pos ⟨by omega, hm⟩] at hd
    exact decide_eq_true ((Qrd hm).1 hd)
   ·have hm : y.Mul = 0 := by omega
    rw [hm] at hx ⊢
    exact decide_eq_true (by omega)

/-- What is known between two steps. -/
structure KInv (L : List Qb) (v : List Int) : Prop where
 vec : Vec v
 le : ∀ x, Sol L x → VLe v x
theorem KInv.over {L : List Qb} {v : List Int} (h : KInv L v) {y : Qb} (hy : VL y 6) (hm : y ∈ L) (hn : 65536 < (dem y v).2) : ¬ Sat L := by
 rintro ⟨x, hx⟩
 have h1 := QsK hy hx.vec (hx.keep y hm) (h.le x hx)
 have h2 := Qp7 hy h.vec
 have h3 := (hx.vec.nth h2.1 h2.2.1).2
 omega
theorem KInv.step {L : List Qb} {v : List Int} (h : KInv L v) {y : Qb} (hy : VL y 6) (hm : y ∈ L) (hn : ¬ 65536 < (dem y v).2) (hg : nth v (dem y v).1 < (dem y v).2) :
  KInv L (v.set (dem y v).1.toNat (dem y v).2) ∧ v.sum < (v.set (dem y v).1.toNat (dem y v).2).sum := by
 have h2 := Qp7 hy h.vec
 refine ⟨⟨h.vec.set h2.2.2 (by omega), fun x hx i i0 i1 => ?_⟩, ?_⟩
 ·rw [QvT h2.1 i0 (by rw [h.vec.len]; exact h2.2.1)]
  split
  ·rename_i e; rw [← e]; exact QsK hy hx.vec (hx.keep y hm) (h.le x hx)
  ·exact h.le x hx i i0 i1
 ·have hlt : (dem y v).1.toNat < v.length := by rw [h.vec.len]; omega
  rw [Qrc v _ hlt]
  have e : nth v (dem y v).1 = v[(dem y v).1.toNat] := by
   have := QvS hlt
   rwa [Int.toNat_of_nonneg h2.1] at this
  omega
theorem KInv.fin {L : List Qb} {v : List Int} (h : KInv L v) (hL : ∀ y ∈ L, VL y 6) (hd : ∀ y ∈ L, (dem y v).2 ≤ nth v (dem y v).1) : (L.all fun y => Qcc y v) = true ↔ Sat L := by
 constructor
 ·intro ha
  exact ⟨v, h.vec, fun y hy => List.all_eq_true.1 ha y hy⟩
 ·rintro ⟨x, hx⟩
  exact List.all_eq_true.2 fun y hy => Qt4 (hL y hy) (hx.keep y hy) (h.le x hx) (hd y hy)
theorem KInv.zero {L : List Qb} : KInv L [0, 0, 0, 0, 0, 0] := by
 refine ⟨⟨rfl, fun z hz => ?_⟩, fun x hx i i0 i1 => ?_⟩
 ·simp at hz; omega
 ·have e : nth [0, 0, 0, 0, 0, 0] i = 0 := by
   obtain ⟨k, rfl⟩ := Int.eq_ofNat_of_zero_le i0
   match k, (show k < 6 by omega) with
   | 0, _ => rfl
   | 1, _ => rfl
   | 2, _ => rfl
   | 3, _ => rfl
   | 4, _ => rfl
   | 5, _ => rfl
  rw [e]; exact (hx.vec.nth i0 i1).1

/-! The program's way -/

theorem up_is {y : Qb} {a : Ql} (hy : VL y 6) (ha : Vec a.L) : Qcu y a = some (dem y a.L) := by
 have := hy.a0; have := hy.a1; have := hy.b0; have := hy.b1; have := hy.m0; have := hy.m1
 unfold Qcu dem
 have g : ∀ i, 0 ≤ i → i < 6 → idx a.L i = some (nth a.L i) := fun i h0 h1 => QfE h0 (by rw [ha.len]; exact h1)
 cases hL : y.Least with
 | true =>
  by_cases hb : y.B < 0
  ·rw [if_pos (by simpa using hb), if_pos ⟨hb, rfl⟩]
  ·rw [if_neg (by simpa using hb), if_pos rfl, if_neg (fun h => hb h.1), if_pos rfl, g _ (by omega) hy.b1]
   have hm := Qra hy.m0 hy.m1 (ha.nth (by omega) hy.b1).1 (ha.nth (by omega) hy.b1).2
   simp only [Option.bind_some]
   rw [w64 (by omega) (by omega)]
 | false =>
  simp only [Bool.and_false, Bool.false_eq_true, if_false, and_false]
  by_cases h : 0 ≤ y.B ∧ 0 < y.Mul
  ·rw [if_pos (by simpa using h), if_pos h, g _ hy.a0 hy.a1]
   have hn := ha.nth hy.a0 hy.a1
   simp only [Option.bind_some]
   rw [QrI (by omega)]
   simp only [Option.bind_some]
   rw [w64 (n := nth a.L y.A + y.Mul) (by omega) (by omega), w64 (n := nth a.L y.A + y.Mul - 1) (by omega) (by omega), Int.tdiv_eq_ediv_of_nonneg (by omega)]
   have h0 : 0 ≤ (nth a.L y.A + y.Mul - 1) / y.Mul := Int.ediv_nonneg (by omega) (by omega)
   have h1 : (nth a.L y.A + y.Mul - 1) / y.Mul ≤ nth a.L y.A + y.Mul - 1 := Int.ediv_le_self _ (by omega)
   rw [w64 (by omega) (by omega)]
  ·rw [if_neg (by simp only [Bool.and_eq_true, decide_eq_true_eq]; exact h), if_neg h]
theorem setI_L {a : Ql} {k n : Int} (h0 : 0 ≤ k) (h1 : k < 6) : (a.setI k n).L = a.L.set k.toNat n := by
 obtain ⟨j, rfl⟩ := Int.eq_ofNat_of_zero_le h0
 match j, (show j < 6 by omega) with
 | 0, _ => rfl
 | 1, _ => rfl
 | 2, _ => rfl
 | 3, _ => rfl
 | 4, _ => rfl
 | 5, _ => rfl
theorem Qp8 {s : List Qb} {f : Qb → Option Bool} {p : Qb → Bool} (hs : s.length ≤ 1000000) (hf : ∀ x ∈ s, f x = some (p x)) : Qah s f = some (s.any p) := by
 unfold Qah Qbv
 rw [QnH s p (fun k hk => ?_) ?_]
 ·rw [← Qrb]; unfold fIx; cases s.findIdx? p <;> rfl
 ·rw [if_neg (by simp)]
 ·rw [if_pos (by simpa using hk), Qak hk]
  show (f s[k]).bind _ = _
  rw [hf _ (List.getElem_mem hk), Qab hk (by omega)]; rfl

theorem VL.vec {y : Qb} {v : List Int} (h : VL y 6) (hv : Vec v) : VL y v.length := by rw [hv.len]; exact h
theorem QvU {L : List Qb} (hl : L.length ≤ 1000000) (hL : ∀ y ∈ L, VL y 6) : Ok (Qci L) (fun b => b = true ↔ Sat L) := by
 unfold Qci
 refine Ok.bind (P := fun r : Ql ⊕ Bool => match r with | .inl a => KInv L a.L ∧ ∀ y ∈ L, (dem y a.L).2 ≤ nth a.L (dem y a.L).1 | .inr b => b = false ∧ ¬ Sat L)
  (Ok.loop (fun m s => KInv L s.2.L ∧ (s.1 = false → ∀ y ∈ L, (dem y s.2.L).2 ≤ nth s.2.L (dem y s.2.L).1) ∧ (if s.1 = true then 1 else 0) + (393216 - s.2.L.sum).toNat = m) 393217 ⟨KInv.zero, (fun h => nomatch h), rfl⟩ fun m s hs => ?_) (fun r hr => ?_)
 ·obtain ⟨h1, h2, h3⟩ := hs
  refine Ok.ite (fun hc => ?_) (fun hc => Ok.mk ⟨h1, h2 hc⟩)
  rw [if_pos hc] at h3
  refine Ok.bind (P := fun r : (Bool × Ql) ⊕ Bool => match r with | .inl p => KInv L p.2.L ∧ (p.1 = false → p.2.L = s.2.L ∧ ∀ y ∈ L, (dem y p.2.L).2 ≤ nth p.2.L (dem y p.2.L).1) ∧ (p.1 = true → s.2.L.sum < p.2.L.sum) | .inr b => b = false ∧ ¬ Sat L)
   (Ok.loop (fun k t => 0 ≤ t.1 ∧ t.1 + k = L.length ∧ KInv L t.2.2.L ∧ (t.2.1 = false → t.2.2.L = s.2.L ∧ ∀ i (h : i < L.length), i < t.1.toNat → (dem L[i] t.2.2.L).2 ≤ nth t.2.2.L (dem L[i] t.2.2.L).1) ∧ (t.2.1 = true → s.2.L.sum < t.2.2.L.sum)) L.length
    ⟨Int.le_refl _, by simp, h1, fun _ => ⟨rfl, fun i _ hi => by simp at hi⟩, fun h => by cases h⟩ fun k t ht => ?_) (fun r hr => ?_)
  ·obtain ⟨g1, g2, g3, g4, g5⟩ := ht
   refine Ok.ite (fun hd => ?_) (fun hd => ?_)
   ·have hd : t.1 < L.length := of_decide_eq_true hd
    obtain ⟨j, hj⟩ := Int.eq_ofNat_of_zero_le g1
    have hjl : j < L.length := by omega
    have hy := hL _ (List.getElem_mem hjl)
    rw [hj, Qak hjl]
    simp only [Option.bind_some, up_is hy g3.vec]
    have hk := Qp7 hy g3.vec
    refine Ok.ite (fun ho => Ok.mk ⟨rfl, g3.over hy (List.getElem_mem hjl) (of_decide_eq_true ho)⟩) (fun ho => ?_)
    have ho : ¬ 65536 < (dem L[j] t.2.2.L).2 := of_decide_eq_false ho
    rw [QfE hk.1 (by rw [g3.vec.len]; exact hk.2.1)]
    simp only [Option.bind_some]
    refine Ok.bind (P := fun p : Bool × Ql => KInv L p.2.L ∧ (p.1 = false → p.2.L = s.2.L ∧ ∀ i (h : i < L.length), i < j + 1 → (dem L[i] p.2.L).2 ≤ nth p.2.L (dem L[i] p.2.L).1) ∧ (p.1 = true → s.2.L.sum < p.2.L.sum)) (Ok.ite (fun hg => ?_) (fun hg => ?_)) (fun p hp => ?_)
    ·have hg := of_decide_eq_true hg
     obtain ⟨e1, e2⟩ := g3.step hy (List.getElem_mem hjl) ho hg
     refine Ok.mk ?_
     have e := setI_L (a := t.2.2) (n := (dem L[j] t.2.2.L).2) hk.1 hk.2.1
     refine ⟨by rw [e]; exact e1, (fun h => nomatch h), fun _ => ?_⟩
     rw [e]
     cases hb : t.2.1 with
     | true => have := g5 hb; omega
     | false => have := (g4 hb).1; rw [← this]; exact e2
    ·have hg := of_decide_eq_false hg
     refine Ok.mk ⟨g3, fun h => ⟨(g4 h).1, fun i hi hij => ?_⟩, g5⟩
     by_cases e : i = j
     ·subst e; exact Int.not_lt.1 hg
     ·exact (g4 h).2 i hi (by rw [hj]; omega)
    ·refine Ok.mk ⟨k - 1, by omega, ?_⟩
     rw [Qab hjl (by omega)]
     refine ⟨by omega, by omega, hp.1, fun h => ⟨(hp.2.1 h).1, fun i hi hij => (hp.2.1 h).2 i hi (by simpa using hij)⟩, hp.2.2⟩
   ·have hd : ¬ t.1 < L.length := of_decide_eq_false hd
    refine Ok.mk ⟨g3, fun h => ⟨(g4 h).1, fun y hy => ?_⟩, g5⟩
    obtain ⟨i, hi, rfl⟩ := List.getElem_of_mem hy
    exact (g4 h).2 i hi (by omega)
  ·cases r with
   | inr b => exact Ok.mk hr
   | inl p =>
    obtain ⟨q1, q2, q3⟩ := hr
    have s1 := h1.vec.sum; have s2 := q1.vec.sum
    refine Ok.mk ⟨_, ?_, q1, fun h => (q2 h).2, rfl⟩
    show (if p.1 = true then 1 else 0) + (393216 - p.2.L.sum).toNat < m
    cases hb : p.1 with
    | true => have := q3 hb; simp only [if_true]; omega
    | false => have := (q2 hb).1; rw [this]; simp only [Bool.false_eq_true, if_false]; omega
 ·cases r with
  | inr b => exact Ok.mk (by rw [hr.1]; exact ⟨(fun h => nomatch h), fun h => (hr.2 h).elim⟩)
  | inl a =>
   obtain ⟨q1, q2⟩ := hr
   show Ok ((Qah L fun x0 => QaP a x0).bind fun t36 => some (!t36)) _
   rw [Qp8 (f := fun x0 => QaP a x0) (p := fun y => !Qcc y a.L) hl (fun y hy => by
    unfold QaP
    rw [Qp6 ((hL y hy).vec q1.vec) q1.vec.num]; rfl)]
   refine Ok.mk ?_
   rw [show (!L.any fun y => !Qcc y a.L) = L.all fun y => Qcc y a.L by rw [List.all_eq_not_any_not]]
   exact q1.fin hL q2

end Go.Proofs.YtcdccjagknlmpaaGreatDoor

namespace Go.Proofs.YtcdccjagknlmpaaGreatDoor
open Go.Sim

end Go.Proofs.YtcdccjagknlmpaaGreatDoor

namespace Go.Proofs.YtcdccjagknlmpaaGreatDoor
open Go.Sim

theorem u64w {n : Int} (h0 : 0 ≤ n) (h1 : n < 18446744073709551616) : IntKind.u64.wrap n = n := by
 simp only [IntKind.wrap, IntKind.bits, IntKind.signed]
 simp; omega
theorem u64m (n : Int) : IntKind.u64.wrap n = n % 18446744073709551616 := by simp [IntKind.wrap, IntKind.bits, IntKind.signed]
theorem QnI {m : Nat} (h : m < 2 ^ 64) : (BitVec.ofInt 64 (m : Int)).toNat = m := by
 rw [BitVec.toNat_ofInt]
 have : ((m : Int) % ((2 ^ 64 : Nat) : Int)) = m := Int.emod_eq_of_lt (by omega) (by omega)
 rw [this]; simp
theorem Qre {a b : Nat} (ha : a < 2 ^ 64) (hb : b < 2 ^ 64) : ior .u64 (a : Int) (b : Int) = ((a ||| b : Nat) : Int) := by
 unfold ior
 show IntKind.u64.wrap (((BitVec.ofInt 64 (a : Int) ||| BitVec.ofInt 64 (b : Int)).toNat : Nat) : Int) = _
 rw [BitVec.toNat_or, QnI ha, QnI hb]
 have := Nat.or_lt_two_pow ha hb
 exact u64w (by omega) (by omega)
theorem Qp9 {a b : Nat} (ha : a < 2 ^ 64) (hb : b < 2 ^ 64) : iand .u64 (a : Int) (b : Int) = ((a &&& b : Nat) : Int) := by
 unfold iand
 show IntKind.u64.wrap (((BitVec.ofInt 64 (a : Int) &&& BitVec.ofInt 64 (b : Int)).toNat : Nat) : Int) = _
 rw [BitVec.toNat_and, QnI ha, QnI hb]
 have := Nat.and_lt_two_pow a hb
 exact u64w (by omega) (by omega)

def num (S : List Nat) : Nat := S.foldr (fun i a => 2 ^ i + a) 0
theorem QgX (i : Nat) (S : List Nat) : num (i :: S) = 2 ^ i + num S := rfl
theorem QvV (S T : List Nat) : num (S ++ T) = num S + num T := by
 induction S with
 | nil => show num T = 0 + num T; omega
 | cons i S ih => rw [List.cons_append, QgX, QgX, ih]; omega
def Up (S : List Nat) : Prop := S.Pairwise (· < ·)
theorem Qog {k : Nat} : ∀ {S : List Nat}, (∀ j ∈ S, k ≤ j) → ∃ q, num S = 2 ^ k * q
 | [], _ => ⟨0, rfl⟩
 | i :: S, h => by
  obtain ⟨q, hq⟩ := Qog (S := S) fun j hj => h j (List.mem_cons_of_mem _ hj)
  have hk := h i (List.mem_cons_self ..)
  refine ⟨2 ^ (i - k) + q, ?_⟩
  rw [QgX, hq, Nat.mul_add, ← Nat.pow_add, show k + (i - k) = i by omega]
theorem QsL {n : Nat} : ∀ {S : List Nat} {k : Nat}, Up S → (∀ j ∈ S, k ≤ j ∧ j < n) → k ≤ n → num S + 2 ^ k ≤ 2 ^ n
 | [], k, _, _, hk => by
  have := Nat.pow_le_pow_right (n := 2) (by decide) hk
  show 0 + 2 ^ k ≤ 2 ^ n; omega
 | i :: S, k, hu, h, _ => by
  have hp := List.pairwise_cons.1 hu
  have hi := h i (List.mem_cons_self ..)
  have ih := QsL (S := S) (k := i + 1) hp.2 (fun j hj => ⟨hp.1 j hj, (h j (List.mem_cons_of_mem _ hj)).2⟩) hi.2
  have hki := Nat.pow_le_pow_right (n := 2) (by decide) hi.1
  rw [QgX]
  rw [Nat.pow_succ] at ih
  omega
theorem Qqa {n : Nat} {S : List Nat} (hu : Up S) (h : ∀ j ∈ S, j < n) : num S < 2 ^ n := by
 have := QsL (k := 0) hu (fun j hj => ⟨Nat.zero_le _, h j hj⟩) (Nat.zero_le _)
 omega
theorem Qoh {i : Nat} {S : List Nat} : 0 < num (i :: S) := by
 rw [QgX]
 have := Nat.two_pow_pos i
 omega
theorem QkX {S : List Nat} : num S = 0 ↔ S = [] := by
 cases S with
 | nil => exact ⟨fun _ => rfl, fun _ => rfl⟩
 | cons i S => exact ⟨fun h => by have := Qoh (i := i) (S := S); omega, fun h => by cases h⟩
theorem QoO (f : Nat) : ∀ c, num (List.range' f c) + 2 ^ f = 2 ^ (f + c)
 | 0 => by show 0 + 2 ^ f = 2 ^ f; omega
 | c + 1 => by
  have := QoO (f + 1) c
  rw [List.range'_succ, QgX, show f + (c + 1) = f + 1 + c by omega, ← this, Nat.pow_succ]
  omega
theorem QsM {S T : List Nat} {n : Nat} (hS : Up S) (h : ∀ j ∈ S, j < n) (hT : ∀ j ∈ T, n ≤ j) : num S ||| num T = num (S ++ T) := by
 obtain ⟨q, hq⟩ := Qog hT
 rw [QvV, hq, Nat.add_comm, Nat.two_pow_add_eq_or_of_lt (Qqa hS h), Nat.or_comm]

/-! The lowest bit -/

theorem Qoi (q j : Nat) : (2 * q + 1).testBit (j + 1) = q.testBit j := by
 rw [Nat.testBit_succ]; congr 1; omega
theorem Qt5 (q j : Nat) : (2 * q).testBit (j + 1) = q.testBit j := by
 rw [Nat.testBit_succ]; congr 1; omega
theorem Qqb (q : Nat) : (2 * q + 1).testBit 0 = true := by simp
theorem QsN (q : Nat) : (2 * q).testBit 0 = false := by simp
theorem Qkl (i q j : Nat) : (2 ^ i * q).testBit j = if j < i then false else q.testBit (j - i) := by
 have := Nat.testBit_two_pow_mul_add q (b := 0) (i := i) (Nat.two_pow_pos i) j
 simpa using this
/-- The lowest bit is taken away. -/
theorem QsO (i q : Nat) : (2 ^ i * (2 * q + 1)) &&& (2 ^ i * (2 * q + 1) - 1) = 2 ^ i * (2 * q) := by
 apply Nat.eq_of_testBit_eq
 intro j
 have e : 2 ^ i * (2 * q + 1) - 1 = 2 ^ i * (2 * q) + (2 ^ i - 1) := by
  have := Nat.two_pow_pos i
  rw [Nat.mul_add]; omega
 rw [Nat.testBit_and, Qkl, Qkl, e, Nat.testBit_two_pow_mul_add _ (by have := Nat.two_pow_pos i; omega)]
 by_cases h : j < i
 ·simp only [if_pos h, Bool.false_and]
 ·rw [if_neg h, if_neg h, if_neg h]
  cases hk : j - i with
  | zero => rw [QsN]; simp
  | succ k => rw [Qoi, Qt5, Bool.and_self]
/-- The lowest bit alone. -/
theorem Qt6 {i q : Nat} (h : 2 ^ i * (2 * q + 1) < 2 ^ 64) : (2 ^ i * (2 * q + 1)) &&& (2 ^ 64 - 2 ^ i * (2 * q + 1)) = 2 ^ i := by
 have hi : i < 64 := by
  refine Nat.lt_of_not_le fun hle => ?_
  have h1 := Nat.pow_le_pow_right (n := 2) (by decide) hle
  have h2 : 2 ^ i * 1 ≤ 2 ^ i * (2 * q + 1) := Nat.mul_le_mul_left _ (by omega)
  omega
 have hp : 2 ^ 64 = 2 ^ i * (2 * 2 ^ (63 - i)) := by
  rw [← Nat.pow_succ', ← Nat.pow_add, show i + (63 - i + 1) = 64 by omega]
 have hq : q < 2 ^ (63 - i) := by
  rw [hp] at h
  have := Nat.lt_of_mul_lt_mul_left h
  omega
 have e : 2 ^ 64 - 2 ^ i * (2 * q + 1) = 2 ^ i * (2 * (2 ^ (63 - i) - (q + 1)) + 1) := by
  rw [hp, ← Nat.mul_sub]
  congr 1; omega
 apply Nat.eq_of_testBit_eq
 intro j
 rw [Nat.testBit_and, e, Qkl, Qkl]
 have e1 : (2 ^ i : Nat).testBit j = if j < i then false else (1 : Nat).testBit (j - i) := by
  have := Qkl i 1 j
  rwa [Nat.mul_one] at this
 rw [e1]
 by_cases h : j < i
 ·simp only [if_pos h, Bool.false_and]
 ·rw [if_neg h, if_neg h, if_neg h]
  cases hk : j - i with
  | zero => rw [Qqb, Qqb]; rfl
  | succ k =>
   rw [Qoi, Qoi, Nat.testBit_two_pow_sub_succ hq]
   have : (1 : Nat).testBit (k + 1) = false := by simp [Nat.testBit_succ]
   rw [this]
   cases q.testBit k <;> simp

theorem deB : ∀ i : Fin 64, (idx Ql6 (ishr .u64 (IntKind.u64.wrap (((2 ^ i.val : Nat) : Int) * 285870213051353865)) 58)) = some ((i.val : Nat) : Int) := by decide +kernel
theorem tz_is {i q : Nat} (h : 2 ^ i * (2 * q + 1) < 2 ^ 64) : QaW ((2 ^ i * (2 * q + 1) : Nat) : Int) = some (i : Int) := by
 have hpos : 0 < 2 ^ i * (2 * q + 1) := Nat.mul_pos (Nat.two_pow_pos i) (by omega)
 have hi : i < 64 := by
  refine Nat.lt_of_not_le fun hle => ?_
  have h1 := Nat.pow_le_pow_right (n := 2) (by decide) hle
  have h2 : 2 ^ i * 1 ≤ 2 ^ i * (2 * q + 1) := Nat.mul_le_mul_left _ (by omega)
  omega
 obtain ⟨x, hx⟩ : ∃ x, 2 ^ i * (2 * q + 1) = x := ⟨_, rfl⟩
 have hl := Qt6 h
 rw [hx] at h hpos hl ⊢
 unfold QaW QbL
 rw [if_neg (by simp; omega)]
 have e1 : IntKind.u64.wrap (0 - (x : Int)) = ((2 ^ 64 - x : Nat) : Int) := by rw [u64m]; omega
 rw [e1, Qp9 h (by omega), hl, deB ⟨i, hi⟩]
 simp only [Option.bind_some]
 rw [w64 (by omega) (by omega)]
theorem low_is {i q : Nat} (h : 2 ^ i * (2 * q + 1) < 2 ^ 64) : iand .u64 ((2 ^ i * (2 * q + 1) : Nat) : Int) (IntKind.u64.wrap (((2 ^ i * (2 * q + 1) : Nat) : Int) - 1)) = ((2 ^ i * (2 * q) : Nat) : Int) := by
 have hpos : 0 < 2 ^ i * (2 * q + 1) := Nat.mul_pos (Nat.two_pow_pos i) (by omega)
 obtain ⟨x, hx⟩ : ∃ x, 2 ^ i * (2 * q + 1) = x := ⟨_, rfl⟩
 have hl := QsO i q
 rw [hx] at h hpos hl ⊢
 have e1 : IntKind.u64.wrap ((x : Int) - 1) = ((x - 1 : Nat) : Int) := by rw [u64w (by omega) (by omega)]; omega
 rw [e1, Qp9 h (by omega), hl]
/-- The first index of a set, and the set without it. -/
theorem QoP {i : Nat} {S : List Nat} (hu : Up (i :: S)) (h : ∀ j ∈ i :: S, j < 64) :
  QaW (num (i :: S) : Int) = some (i : Int) ∧ iand .u64 (num (i :: S) : Int) (IntKind.u64.wrap ((num (i :: S) : Int) - 1)) = (num S : Int) := by
 obtain ⟨q, hq⟩ := Qog (S := S) (k := i + 1) fun j hj => (List.pairwise_cons.1 hu).1 j hj
 have e : num (i :: S) = 2 ^ i * (2 * q + 1) := by rw [QgX, hq, Nat.pow_succ, Nat.mul_add, Nat.mul_assoc]; omega
 have hlt := Qqa hu h
 rw [e] at hlt ⊢
 have e2 : num S = 2 ^ i * (2 * q) := by rw [hq, Nat.pow_succ, Nat.mul_assoc]
 rw [e2]
 exact ⟨tz_is hlt, low_is hlt⟩
/-- A loop over the indices of a set. -/
theorem QoQ {α : Type} (S : List Nat) (hu : Up S) (h : ∀ j ∈ S, j < 64) (g : Nat → α) {body : Int × List α → Option ((Int × List α) ⊕ List α)}
  (hb : ∀ (i : Nat) (T : List Nat) (acc : List α), i ∈ S → acc.length ≤ S.length → Up (i :: T) → (∀ j ∈ i :: T, j < 64) → body ((num (i :: T) : Int), acc) = some (.inl ((num T : Int), acc ++ [g i])))
  (he : ∀ acc, body ((0 : Int), acc) = some (.inr acc)) : QI body ((num S : Int), []) = some (S.map g) := by
 have := QfC (body := body) S.length (fun k => ((num (S.drop k) : Int), (S.take k).map g)) (S.map g) (fun k hk => ?_) ?_
 ·simpa using this
 ·have e : S.drop k = S[k] :: S.drop (k + 1) := List.drop_eq_getElem_cons hk
  rw [e, hb S[k] (S.drop (k + 1)) _ (List.getElem_mem hk) (by simp; omega), ← Qpj g S hk]
  ·rw [← e]; exact List.Pairwise.sublist (List.drop_sublist _ _) hu
  ·intro j hj
   rw [← e] at hj
   exact h j (List.mem_of_mem_drop hj)
 ·rw [List.drop_length, List.take_length]
  exact he _

end Go.Proofs.YtcdccjagknlmpaaGreatDoor

namespace Go.Proofs.YtcdccjagknlmpaaGreatDoor
open Go.Sim
open Classical in
/-- What is so is told. -/
noncomputable def tell (p : Prop) : Bool := if p then true else false
theorem QdE {p : Prop} : tell p = true ↔ p := by unfold tell; split <;> simp_all
theorem tell_f {p : Prop} : tell p = false ↔ ¬ p := by unfold tell; split <;> simp_all

theorem Qoj {L : List Qb} (hl : L.length ≤ 1000000) (hL : ∀ y ∈ L, VL y 6) : Qci L = some (tell (Sat L)) := by
 obtain ⟨b, hb, hi⟩ := QvU hl hL
 rw [hb]; congr 1
 rw [Bool.eq_iff_iff, hi, QdE]
def zL : Qb := ⟨0, 0, 0, false⟩
/-- The limits with some indices. -/
def sel (L : List Qb) (S : List Nat) : List Qb := S.map fun i => L.getD i zL
theorem Qok {α : Type} {l : List α} {z : α} {i : Nat} (h : i < l.length) : l.getD i z = l[i] := by simp [List.getD_eq_getElem?_getD, h]
theorem Qkm {L : List Qb} {S : List Nat} (hS : ∀ i ∈ S, i < L.length) : ∀ y ∈ sel L S, y ∈ L := by
 intro y hy
 obtain ⟨i, hi, rfl⟩ := List.mem_map.1 hy
 rw [Qok (hS i hi)]; exact List.getElem_mem _
theorem Qrf {L : List Qb} {S T : List Nat} (h : ∀ i ∈ S, i ∈ T) : ∀ y ∈ sel L S, y ∈ sel L T := by
 intro y hy
 obtain ⟨i, hi, rfl⟩ := List.mem_map.1 hy
 exact List.mem_map.2 ⟨i, h i hi, rfl⟩

theorem Qrg {L : List Qb} {S : List Nat} (hl : L.length ≤ 24) (hu : Up S) (hS : ∀ i ∈ S, i < L.length) (hn : S.length ≤ 1000000) : Qdi L (num S : Int) = some (sel L S) := by
 unfold Qdi
 rw [QoQ S hu (fun j hj => by have := hS j hj; omega) (fun i => L.getD i zL) (fun i T acc hi ha hup hlt => ?_) (fun acc => if_neg (by simp))]
 ·rfl
 ·have hf := QoP hup hlt
  have hp := Qoh (i := i) (S := T)
  dsimp only
  rw [if_pos (by simp; omega), hf.1, hf.2]
  simp only [Option.bind_some]
  rw [Qak (hS i hi), Qok (hS i hi)]
  simp only [Option.bind_some]
  rw [Qgn (by simp; omega)]
  rfl
def ints (S : List Nat) : List Int := List.map (fun i : Nat => (i : Int)) S
/-- The first one that is found. -/
noncomputable def tryS (f : Nat → List Nat) : List Nat → List Nat
 | [] => []
 | i :: l => if f i ≠ [] then f i else tryS f l
/-- The lexicographically first set of so many limits beside some, from a place on, that no numbers keep. -/
noncomputable def QaZ (L : List Qb) : Nat → List Nat → Nat → List Nat
 | 0, S, _ => if tell (Sat (sel L S)) = true then [] else S
 | m + 1, S, f => if tell (Sat (sel L (S ++ List.range' f (L.length - f)))) = true then [] else tryS (fun i => QaZ L m (S ++ [i]) (i + 1)) (List.range' f (L.length + 1 - (m + 1) - f))

structure QeP (L : List Qb) (S : List Nat) (f : Nat) : Prop where
 up : Up S
 lt : ∀ i ∈ S, i < f
 le : f ≤ L.length
theorem QeP.in {L : List Qb} {S : List Nat} {f : Nat} (h : QeP L S f) : ∀ i ∈ S, i < L.length := fun i hi => Nat.lt_of_lt_of_le (h.lt i hi) h.le
theorem up_len' {n : Nat} : ∀ {S : List Nat} {k : Nat}, Up S → (∀ j ∈ S, k ≤ j ∧ j < n) → k ≤ n → k + S.length ≤ n
 | [], k, _, _, hk => hk
 | i :: S, k, hu, h, _ => by
  have hp := List.pairwise_cons.1 hu
  have hi := h i (List.mem_cons_self ..)
  have ih := up_len' (S := S) (k := i + 1) hp.2 (fun j hj => ⟨hp.1 j hj, (h j (List.mem_cons_of_mem _ hj)).2⟩) hi.2
  rw [List.length_cons]; omega
theorem QsP {S : List Nat} {n : Nat} (hu : Up S) (h : ∀ i ∈ S, i < n) : S.length ≤ n := by
 have := up_len' (k := 0) hu (fun j hj => ⟨Nat.zero_le _, h j hj⟩) (Nat.zero_le _)
 omega
theorem QeP.len {L : List Qb} {S : List Nat} {f : Nat} (h : QeP L S f) : S.length ≤ f := QsP h.up h.lt
theorem QeP.snoc {L : List Qb} {S : List Nat} {f i : Nat} (h : QeP L S f) (hi : f ≤ i) (hl : i < L.length) : QeP L (S ++ [i]) (i + 1) :=
 ⟨List.pairwise_append.2 ⟨h.up, List.pairwise_singleton _ _, fun a ha b hb => by rw [List.mem_singleton.1 hb]; exact Nat.lt_of_lt_of_le (h.lt a ha) hi⟩,
  fun j hj => by
   rcases List.mem_append.1 hj with hj | hj
   ·have := h.lt j hj; omega
   ·rw [List.mem_singleton.1 hj]; omega, hl⟩
theorem QeP.all {L : List Qb} {S : List Nat} {f : Nat} (h : QeP L S f) : QeP L (S ++ List.range' f (L.length - f)) L.length :=
 ⟨List.pairwise_append.2 ⟨h.up, List.pairwise_lt_range', fun a ha b hb => by have := h.lt a ha; have := (List.mem_range'_1.1 hb).1; omega⟩,
  fun j hj => by
   rcases List.mem_append.1 hj with hj | hj
   ·exact h.in j hj
   ·have := (List.mem_range'_1.1 hj); have := h.le; omega, Nat.le_refl _⟩

/-- A loop over indices that stops at the first set that is found. -/
theorem QmW {ρ : Type} (f : Nat → List Nat) (g : List Nat → ρ) {body : Int → Option (Int ⊕ (Unit ⊕ ρ))} : ∀ (c a : Nat),
  (∀ i, a ≤ i → i < a + c → body (i : Int) = if f i ≠ [] then some (.inr (.inr (g (f i)))) else some (.inl ((i + 1 : Nat) : Int))) → body ((a + c : Nat) : Int) = some (.inr (.inl ())) →
  QI body (a : Int) = some (if tryS f (List.range' a c) ≠ [] then .inr (g (tryS f (List.range' a c))) else .inl ())
 | 0, a, _, he => by rw [QbE]; rw [Nat.add_zero] at he; rw [he]; rfl
 | c + 1, a, hb, he => by
  rw [QbE, hb a (Nat.le_refl _) (by omega), List.range'_succ]
  by_cases h : f a ≠ []
  ·have e : tryS f (a :: List.range' (a + 1) c) = f a := if_pos h
   rw [if_pos h, e, if_pos h]
  ·have e : tryS f (a :: List.range' (a + 1) c) = tryS f (List.range' (a + 1) c) := if_neg h
   rw [if_neg h, e]
   exact QmW f g c (a + 1) (fun i h1 h2 => hb i (by omega) (by omega)) (by rw [show a + 1 + c = a + (c + 1) by omega]; exact he)
theorem QvW {n f : Nat} (hn : n ≤ 24) (hf : f ≤ n) : ishl .u64 (ishr .u64 (ishr .u64 (18446744073709551615:Int) (IntKind.i64.wrap ((64:Int) - (n : Int)))) (f : Int)) (f : Int) = ((2 ^ n - 2 ^ f : Nat) : Int) := by
 have key : ∀ n : Fin 25, ∀ f : Fin 25, f.val ≤ n.val → ishl .u64 (ishr .u64 (ishr .u64 (18446744073709551615:Int) (IntKind.i64.wrap ((64:Int) - ((n.val : Nat) : Int)))) ((f.val : Nat) : Int)) ((f.val : Nat) : Int) = ((2 ^ n.val - 2 ^ f.val : Nat) : Int) := by decide +kernel
 exact key ⟨n, by omega⟩ ⟨f, by omega⟩ hf
theorem QvX {i : Nat} (h : i < 64) : ishl .u64 (1:Int) (i : Int) = ((2 ^ i : Nat) : Int) := by
 have key : ∀ i : Fin 64, ishl .u64 (1:Int) ((i.val : Nat) : Int) = ((2 ^ i.val : Nat) : Int) := by decide +kernel
 exact key ⟨i, h⟩
theorem Qrh (i : Nat) : num [i] = 2 ^ i := rfl
theorem QsQ (n : Nat) : nn (n : Int) = some () := if_pos (Int.natCast_nonneg n)

theorem QmA {L : List Qb} (hl : L.length ≤ 24) (hL : ∀ y ∈ L, VL y 6) : ∀ (m N : Nat) (S : List Nat) (f : Nat), m < N → QeP L S f → m ≤ 1000 →
  QbB N L (num S : Int) (f : Int) (m : Int) = some (num (QaZ L m S f) : Int)
 | m, 0, S, f, h, _, _ => absurd h (Nat.not_lt_zero _)
 | m, N + 1, S, f, h, hS, hm => by
  show Qb7 (QbB N) L (num S : Int) (f : Int) (m : Int) = _
  have hle := hS.le
  have hT := hS.all
  have h64 : ∀ {n : Nat}, n ≤ 24 → 2 ^ n < 2 ^ 64 := fun hn => Nat.lt_of_le_of_lt (Nat.pow_le_pow_right (n := 2) (by decide) hn) (by decide)
  have hSl : num S < 2 ^ 64 := Nat.lt_of_lt_of_le (Qqa hS.up hS.lt) (Nat.le_of_lt (h64 (by omega)))
  have hor : ior .u64 (num S : Int) ((2 ^ L.length - 2 ^ f : Nat) : Int) = (num (S ++ List.range' f (L.length - f)) : Int) := by
   have e : 2 ^ L.length - 2 ^ f = num (List.range' f (L.length - f)) := by
    have := QoO f (L.length - f)
    rw [show f + (L.length - f) = L.length by omega] at this
    omega
   rw [Qre hSl (Nat.lt_of_le_of_lt (Nat.sub_le _ _) (h64 hl)), e, QsM hS.up hS.lt (fun j hj => (List.mem_range'_1.1 hj).1)]
  have hTn := hT.len
  have hSn := hS.len
  have kall := Qoj (L := sel L (S ++ List.range' f (L.length - f))) (by simp only [sel, List.length_map]; omega) (fun y hy => hL y (Qkm hT.in y hy))
  have kset := Qoj (L := sel L S) (by simp only [sel, List.length_map]; omega) (fun y hy => hL y (Qkm hS.in y hy))
  unfold Qb7
  rw [QvW hl hle, hor, Qrg hl hT.up hT.in (by omega), Qrg hl hS.up hS.in (by omega)]
  rw [show nn (IntKind.i64.wrap ((64:Int) - (L.length : Int))) = some () by rw [w64 (by omega) (by omega)]; exact if_pos (by omega), QsQ]
  simp only [Option.bind_some, kall, kset]
  cases m with
  | zero =>
   rw [if_pos (show (((0 : Nat) : Int) == (0:Int)) = true from rfl)]
   show _ = some ((num (if tell (Sat (sel L S)) = true then [] else S) : Nat) : Int)
   cases ha : tell (Sat (sel L (S ++ List.range' f (L.length - f)))) with
   | true =>
    have : tell (Sat (sel L S)) = true := QdE.2 ((QdE.1 ha).sub (Qrf fun i hi => List.mem_append_left _ hi))
    rw [this]; rfl
   | false => cases tell (Sat (sel L S)) <;> rfl
  | succ m =>
   rw [if_neg (show ¬ ((((m + 1 : Nat) : Int) == (0:Int)) = true) by simp; omega)]
   show _ = some ((num (if tell (Sat (sel L (S ++ List.range' f (L.length - f)))) = true then [] else tryS (fun i => QaZ L m (S ++ [i]) (i + 1)) (List.range' f (L.length + 1 - (m + 1) - f))) : Nat) : Int)
   cases ha : tell (Sat (sel L (S ++ List.range' f (L.length - f)))) with
   | true => rfl
   | false =>
    rw [if_neg (by decide), if_neg (by decide)]
    by_cases hc : f ≤ L.length + 1 - (m + 1)
    ·rw [QmW (fun i => QaZ L m (S ++ [i]) (i + 1)) (fun F => ((num F : Nat) : Int)) (L.length + 1 - (m + 1) - f) f (fun i h1 h2 => ?_) ?_]
     ·simp only [Option.bind_some]
      by_cases hne : tryS (fun i => QaZ L m (S ++ [i]) (i + 1)) (List.range' f (L.length + 1 - (m + 1) - f)) ≠ []
      ·rw [if_pos hne]
      ·rw [if_neg hne]
       have : tryS (fun i => QaZ L m (S ++ [i]) (i + 1)) (List.range' f (L.length + 1 - (m + 1) - f)) = [] := Classical.not_not.1 hne
       rw [this]; rfl
     ·rw [w64 (n := ((f + (L.length + 1 - (m + 1) - f) : Nat) : Int) + ((m + 1 : Nat) : Int)) (by omega) (by omega), if_neg (by simp; omega)]
     ·have hil : i < L.length := by omega
      have hsn := hS.snoc h1 hil
      rw [w64 (n := (i : Int) + ((m + 1 : Nat) : Int)) (by omega) (by omega), if_pos (by simp; omega), QsQ, QvX (show i < 64 by omega)]
      rw [Qab (n := 24) (k := i) (by omega) (by omega), w64 (n := ((m + 1 : Nat) : Int) - 1) (by omega) (by omega), show ((m + 1 : Nat) : Int) - 1 = (m : Int) by omega]
      rw [← Qrh i, Qre hSl (by rw [Qrh]; exact Nat.pow_lt_pow_right (by decide) (by omega)), QsM hS.up (n := i) (fun j hj => Nat.lt_of_lt_of_le (hS.lt j hj) h1) (fun j hj => by rw [List.mem_singleton.1 hj]; exact Nat.le_refl _)]
      rw [QmA hl hL m N (S ++ [i]) (i + 1) (by omega) hsn (by omega)]
      simp only [Option.bind_some]
      by_cases hne : QaZ L m (S ++ [i]) (i + 1) ≠ []
      ·rw [if_pos hne, if_pos]
       have := (not_congr (QkX (S := QaZ L m (S ++ [i]) (i + 1)))).2 hne
       simp; omega
      ·rw [if_neg hne, if_neg]
       have := QkX.2 (Classical.not_not.1 hne)
       rw [this]; decide
    ·have e : L.length + 1 - (m + 1) - f = 0 := by omega
     rw [e, QmW (fun i => QaZ L m (S ++ [i]) (i + 1)) (fun F => ((num F : Nat) : Int)) 0 f (fun i h1 h2 => by omega) ?_]
     ·rfl
     ·rw [Nat.add_zero, w64 (n := (f : Int) + ((m + 1 : Nat) : Int)) (by omega) (by omega), if_neg (by simp; omega)]

end Go.Proofs.YtcdccjagknlmpaaGreatDoor
