/- Plain lemmas on the partial functions that the generator writes. No condition. -/
import Derived.Test.YthdfmpocknmleaaGreatDoorSimK
namespace Go.Sim

def I64 (n : Int) : Prop := -9223372036854775808 ≤ n ∧ n ≤ 9223372036854775807
theorem w64 {n : Int} (h : -9223372036854775808 ≤ n) (h' : n ≤ 9223372036854775807) : IntKind.i64.wrap n = n := by rw [IntKind.wrap_i64]; omega
theorem w64_add (a b : Int) : IntKind.i64.wrap (IntKind.i64.wrap a + b) = IntKind.i64.wrap (a + b) := by rw [IntKind.wrap_i64,IntKind.wrap_i64,IntKind.wrap_i64]; omega
theorem w64_zero : IntKind.i64.wrap 0 = 0 := by rw [w64 (by decide) (by decide)]
theorem w64_succ {k n : Nat} (h : k < n) (hn : n ≤ 9223372036854775807) : IntKind.i64.wrap ((k : Int) + 1) = ((k + 1 : Nat) : Int) := by rw [w64 (by omega) (by omega)]; rfl

theorem tailrec_for {σ ρ : Type} {body : σ → Option (σ ⊕ ρ)} (n : Nat) (f : Nat → σ) (r : ρ) (hs : ∀ k,k < n → body (f k) = some (.inl (f (k + 1)))) (he : body (f n) = some (.inr r)) : tailrec body (f 0) = some r := by
  have key : ∀ m k,k + m = n → tailrec body (f k) = some r := by
    intro m
    induction m with
    | zero => intro k hk; rw [tailrec_eq,show k = n by omega,he]
    | succ m ih => intro k hk; rw [tailrec_eq,hs k (by omega)]; exact ih (k + 1) (by omega)
  exact key n 0 (by omega)
/-- A loop that stops early at the first place that p holds at. -/
theorem tailrec_scan {ρ : Type} {body : Int → Option (Int ⊕ ρ)} (n : Nat) (p : Nat → Bool) (r1 : ρ) (r2 : Nat → ρ) (h1 : ∀ k,k < n → p k = false → body (k : Int) = some (.inl ((k + 1 : Nat) : Int)))
    (h2 : ∀ k,k < n → p k = true → body (k : Int) = some (.inr (r2 k))) (h3 : body (n : Int) = some (.inr r1)) :
    ((∃ k,k < n ∧ p k = true ∧ (∀ j,j < k → p j = false) ∧ tailrec body (0 : Int) = some (r2 k)) ∨ ((∀ k,k < n → p k = false) ∧ tailrec body (0 : Int) = some r1)) := by
  have key : ∀ m k,k + m = n → (∀ j,j < k → p j = false) → ((∃ i,i < n ∧ p i = true ∧ (∀ j,j < i → p j = false) ∧ tailrec body (k : Int) = some (r2 i)) ∨ ((∀ k,k < n → p k = false) ∧ tailrec body (k : Int) = some r1)) := by
    intro m
    induction m with
    | zero =>
      intro k hk hp
      have : k = n := by omega
      subst this
      exact .inr ⟨hp,by rw [tailrec_eq,h3]⟩
    | succ m ih =>
      intro k hk hp
      cases hpk : p k with
      | true => exact .inl ⟨k,by omega,hpk,hp,by rw [tailrec_eq,h2 k (by omega) hpk]⟩
      | false =>
        rw [tailrec_eq,h1 k (by omega) hpk]
        exact ih (k + 1) (by omega) (fun j hj => by
          rcases Nat.lt_succ_iff_lt_or_eq.1 hj with h | h
          · exact hp j h
          · rw [h]; exact hpk)
  exact key n 0 (by omega) (fun j hj => by omega)

theorem for_bind {σ ρ β : Type} {body : σ → Option (σ ⊕ ρ)} {g : ρ → Option β} {out : Option β} {s0 : σ} (n : Nat) (f : Nat → σ) (r : ρ) (h0 : f 0 = s0) (hs : ∀ k,k < n → body (f k) = some (.inl (f (k + 1)))) (he : body (f n) = some (.inr r)) (e : g r = out) :
    (tailrec body s0).bind g = out := by
  rw [← h0,tailrec_for n f r hs he]; exact e
theorem gcd_step (a b : Nat) : Nat.gcd b (a % b) = Nat.gcd a b := by rw [Nat.gcd_comm b (a % b),← Nat.gcd_rec,Nat.gcd_comm]

theorem idx_nat {α : Type} (xs : List α) (k : Nat) : idx xs (k : Int) = xs[k]? := by simp [idx]
theorem idx_int {α : Type} (xs : List α) {i : Int} (h : 0 ≤ i) : idx xs i = xs[i.toNat]? := by simp [idx,h]
theorem idx_lt {α : Type} {xs : List α} {k : Nat} (h : k < xs.length) : idx xs (k : Int) = some xs[k] := by rw [idx_nat,List.getElem?_eq_getElem h]
theorem setAt_lt {α : Type} {xs : List α} {k : Nat} (h : k < xs.length) (v : α) : setAt xs (k : Int) v = some (xs.set k v) := by
  unfold setAt; rw [if_pos ⟨by omega,by omega⟩]; simp
theorem rm_le {n : Nat} (h : n ≤ 68719476736) : rm n = some () := by unfold rm; rw [if_pos h]
theorem nz_of {n : Int} (h : n ≠ 0) : nz n = some () := by unfold nz; rw [if_pos h]
theorem fill_get {α : Type} (os z : List α) {k : Nat} (h : k < os.length) (hz : k < z.length) : (os.take k ++ z.drop k)[k]? = some z[k] := by
  rw [List.getElem?_append_right (by simp; omega)]
  simp [Nat.min_eq_left (Nat.le_of_lt h),hz]
theorem fill_len {α : Type} (os z : List α) (hl : os.length = z.length) (k : Nat) : (os.take k ++ z.drop k).length = z.length := by simp; omega
theorem fill_set {α : Type} (os z : List α) {k : Nat} (h : k < os.length) (hz : k < z.length) : (os.take k ++ z.drop k).set k os[k] = os.take (k + 1) ++ z.drop (k + 1) := by
  have e : (os.take k).length = k := by simp; omega
  rw [List.take_succ_eq_append_getElem h,List.set_append_right _ _ (by omega),e,Nat.sub_self,List.append_assoc]
  congr 1
  rw [List.drop_eq_getElem_cons hz]
  rfl
theorem sum_take_succ (l : List Int) {k : Nat} (h : k < l.length) : (l.take (k + 1)).sum = (l.take k).sum + l[k] := by
  rw [List.take_succ_eq_append_getElem h,List.sum_append]; simp
/-- Numbers from 0 to B. -/
def Sm (l : List Int) (B : Int) : Prop := ∀ x ∈ l,0 ≤ x ∧ x ≤ B
theorem Sm.sum {l : List Int} {B : Int} (h : Sm l B) : 0 ≤ l.sum ∧ l.sum ≤ l.length * B := by
  induction l with
  | nil => simp
  | cons x l ih =>
    have h1 := h x (by simp)
    have h2 := ih (fun y hy => h y (by simp [hy]))
    simp only [List.sum_cons,List.length_cons,Int.natCast_add]
    rw [Int.add_mul]
    omega
theorem Sm.sum_le {l : List Int} {B : Int} (h : Sm l B) {n : Nat} (hn : l.length ≤ n) (hB : 0 ≤ B) : l.sum ≤ n * B :=
  Int.le_trans h.sum.2 (Int.mul_le_mul_of_nonneg_right (by omega) hB)
theorem Sm.mono {l : List Int} {B C : Int} (h : Sm l B) (hc : B ≤ C) : Sm l C := fun x hx => ⟨(h x hx).1,Int.le_trans (h x hx).2 hc⟩

/-! Greatest common divisors of lists -/

def lg (l : List Int) : Nat := l.foldl (fun g x => Nat.gcd x.toNat g) 0
theorem lg_foldl (l : List Int) (g : Nat) : l.foldl (fun g x => Nat.gcd x.toNat g) g = Nat.gcd g (lg l) := by
  unfold lg
  induction l generalizing g with
  | nil => simp
  | cons x l ih =>
    simp only [List.foldl_cons,Nat.gcd_zero_right]
    rw [ih,ih x.toNat,Nat.gcd_comm x.toNat g,Nat.gcd_assoc]
theorem lg_cons (x : Int) (l : List Int) : lg (x :: l) = Nat.gcd x.toNat (lg l) := by
  have := lg_foldl l x.toNat
  rw [← this]; simp [lg]
theorem lg_dvd {l : List Int} {x : Int} (h : x ∈ l) (hx : 0 ≤ x) : ((lg l : Nat) : Int) ∣ x := by
  induction l with
  | nil => cases h
  | cons y l ih =>
    rw [lg_cons]
    rcases List.mem_cons.1 h with h | h
    · subst h
      have := Nat.gcd_dvd_left x.toNat (lg l)
      have h2 := Int.natCast_dvd_natCast.2 this
      rwa [Int.toNat_of_nonneg hx] at h2
    · exact Int.dvd_trans (Int.natCast_dvd_natCast.2 (Nat.gcd_dvd_right _ _)) (ih h)
theorem lg_pos {l : List Int} (h : 0 < l.sum) : 0 < lg l := by
  rcases Nat.eq_zero_or_pos (lg l) with h0 | h0
  · exfalso
    have : ∀ l : List Int,lg l = 0 → l.sum ≤ 0 := by
      intro l
      induction l with
      | nil => intro _; simp
      | cons x l ih =>
        intro h
        rw [lg_cons] at h
        have h1 := Nat.eq_zero_of_gcd_eq_zero_left h
        have h2 := ih (Nat.eq_zero_of_gcd_eq_zero_right h)
        simp only [List.sum_cons]; omega
    have := this l h0
    omega
  · exact h0
/-- Weights in lowest terms. -/
def low (l : List Int) : List Int := l.map fun x => x / ((max (lg l) 1 : Nat) : Int)
theorem low_len (l : List Int) : (low l).length = l.length := by simp [low]
theorem low_sm {l : List Int} {B : Int} (h : Sm l B) : Sm (low l) B := by
  intro y hy
  obtain ⟨x,hx,rfl⟩ := List.mem_map.1 hy
  have := h x hx
  refine ⟨Int.ediv_nonneg this.1 (by omega),Int.le_trans (Int.ediv_le_self _ this.1) this.2⟩
theorem low_sum {l : List Int} {B : Int} (h : Sm l B) (hs : 0 < l.sum) : (low l).sum * (lg l : Nat) = l.sum := by
  have hg := lg_pos hs
  have e : max (lg l) 1 = lg l := by omega
  unfold low; rw [e]
  have : ∀ l' : List Int,(∀ x ∈ l',x ∈ l) → (l'.map fun x => x / ((lg l : Nat) : Int)).sum * (lg l : Nat) = l'.sum := by
    intro l'
    induction l' with
    | nil => intro _; simp
    | cons x l' ih =>
      intro hl
      simp only [List.map_cons,List.sum_cons]
      rw [Int.add_mul,ih (fun y hy => hl y (by simp [hy])),Int.ediv_mul_cancel (lg_dvd (hl x (by simp)) (h x (hl x (by simp))).1)]
  exact this l (fun _ h => h)
theorem low_pos {l : List Int} {B : Int} (h : Sm l B) (hs : 0 < l.sum) : 0 < (low l).sum := by
  have h1 := low_sum h hs
  have h2 := (low_sm h).sum.1
  rcases Int.lt_or_eq_of_le h2 with h3 | h3
  · exact h3
  · rw [← h3] at h1; omega
end Go.Sim
