/- Plain lemmas on the partial functions that the generator writes. No condition. -/
import Derived.Test.YtcdccjagknlmpaaGreatDoorSimG
namespace Go.Sim

def I64 (n : Int) : Prop := -9223372036854775808 ≤ n ∧ n ≤ 9223372036854775807
theorem w64 {n : Int} (h : -9223372036854775808 ≤ n) (h' : n ≤ 9223372036854775807) : IntKind.i64.wrap n = n := by rw [IntKind.wrap_i64]; omega
theorem Qab {k n : Nat} (h : k < n) (hn : n ≤ 9223372036854775807) : IntKind.i64.wrap ((k : Int) + 1) = ((k + 1 : Nat) : Int) := by rw [w64 (by omega) (by omega)]; rfl

theorem QfC {σ ρ : Type} {body : σ → Option (σ ⊕ ρ)} (n : Nat) (f : Nat → σ) (r : ρ) (hs : ∀ k,k < n → body (f k) = some (.inl (f (k + 1)))) (he : body (f n) = some (.inr r)) : QI body (f 0) = some r := by
 have key : ∀ m k,k + m = n → QI body (f k) = some r := by
  intro m
  induction m with
  | zero => intro k hk; rw [QbE,show k = n by omega,he]
  | succ m ih => intro k hk; rw [QbE,hs k (by omega)]; exact ih (k + 1) (by omega)
 exact key n 0 (by omega)
/-- A loop that stops early at the first place that p holds at. -/
theorem QlJ {ρ : Type} {body : Int → Option (Int ⊕ ρ)} (n : Nat) (p : Nat → Bool) (r1 : ρ) (r2 : Nat → ρ) (h1 : ∀ k,k < n → p k = false → body (k : Int) = some (.inl ((k + 1 : Nat) : Int)))
  (h2 : ∀ k,k < n → p k = true → body (k : Int) = some (.inr (r2 k))) (h3 : body (n : Int) = some (.inr r1)) :
  ((∃ k,k < n ∧ p k = true ∧ (∀ j,j < k → p j = false) ∧ QI body (0 : Int) = some (r2 k)) ∨ ((∀ k,k < n → p k = false) ∧ QI body (0 : Int) = some r1)) := by
 have key : ∀ m k,k + m = n → (∀ j,j < k → p j = false) → ((∃ i,i < n ∧ p i = true ∧ (∀ j,j < i → p j = false) ∧ QI body (k : Int) = some (r2 i)) ∨ ((∀ k,k < n → p k = false) ∧ QI body (k : Int) = some r1)) := by
  intro m
  induction m with
  | zero =>
   intro k hk hp
   have : k = n := by omega
   subst this
   exact .inr ⟨hp,by rw [QbE,h3]⟩
  | succ m ih =>
   intro k hk hp
   cases hpk : p k with
   | true => exact .inl ⟨k,by omega,hpk,hp,by rw [QbE,h2 k (by omega) hpk]⟩
   | false =>
    rw [QbE,h1 k (by omega) hpk]
    exact ih (k + 1) (by omega) (fun j hj => by
     rcases Nat.lt_succ_iff_lt_or_eq.1 hj with h | h
     ·exact hp j h
     ·rw [h]; exact hpk)
 exact key n 0 (by omega) (fun j hj => by omega)

theorem QgW {σ ρ β : Type} {body : σ → Option (σ ⊕ ρ)} {g : ρ → Option β} {out : Option β} {s0 : σ} (n : Nat) (f : Nat → σ) (r : ρ) (h0 : f 0 = s0) (hs : ∀ k,k < n → body (f k) = some (.inl (f (k + 1)))) (he : body (f n) = some (.inr r)) (e : g r = out) :
  (QI body s0).bind g = out := by
 rw [← h0,QfC n f r hs he]; exact e
theorem QfD {α : Type} (xs : List α) (k : Nat) : idx xs (k : Int) = xs[k]? := by simp [idx]
theorem Qib {α : Type} (xs : List α) {i : Int} (h : 0 ≤ i) : idx xs i = xs[i.toNat]? := by simp [idx,h]
theorem Qak {α : Type} {xs : List α} {k : Nat} (h : k < xs.length) : idx xs (k : Int) = some xs[k] := by rw [QfD,List.getElem?_eq_getElem h]
theorem Qgn {n : Nat} (h : n ≤ 68719476736) : rm n = some () := by unfold rm; rw [if_pos h]
theorem QrI {n : Int} (h : n ≠ 0) : nz n = some () := by unfold nz; rw [if_pos h]
theorem QsG {α : Type} (n : Nat) (z : α) (h : n ≤ 68719476736) : mk (n : Int) z = some (List.replicate n z) := by
 unfold mk; rw [if_pos ⟨by omega,by omega⟩]; simp
theorem Qfg {α : Type} (x : Option α) (d : α) : opt true x d = x := rfl
theorem QsH {α : Type} (x : Option α) (d : α) : opt false x d = some d := rfl

theorem Qpj {α β : Type} (g : α → β) (l : List α) {k : Nat} (h : k < l.length) : (l.take k).map g ++ [g l[k]] = (l.take (k + 1)).map g := by
 rw [List.take_succ_eq_append_getElem h,List.map_append]; rfl
/-- Numbers from 0 to B. -/
def Sm (l : List Int) (B : Int) : Prop := ∀ x ∈ l,0 ≤ x ∧ x ≤ B
theorem Sm.sum {l : List Int} {B : Int} (h : Sm l B) : 0 ≤ l.sum ∧ l.sum ≤ l.length * B := by
 induction l with
 | nil => simp
 | cons x l ih =>
  have h1 := h x (by simp)
  have h2 := ih (fun y hy => h y (by simp [hy]))
  simp only [List.sum_cons,List.length_cons,Int.natCast_add]
  rw [Int.add_mul]
  omega
theorem Sm.mono {l : List Int} {B C : Int} (h : Sm l B) (hc : B ≤ C) : Sm l C := fun x hx => ⟨(h x hx).1,Int.le_trans (h x hx).2 hc⟩

/-! Greatest common divisors of lists -/

def lg (l : List Int) : Nat := l.foldl (fun g x => Nat.gcd x.toNat g) 0
/-- Weights in lowest terms. -/
def low (l : List Int) : List Int := l.map fun x => x / ((max (lg l) 1 : Nat) : Int)
end Go.Sim
