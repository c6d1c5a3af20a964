/- Counts: the generators of limits and of numbers give a result; Holds, both ways. No condition. -/
import Derived.Test.YtcdccjagknlmpaaGreatDoorGenAll
import Derived.Test.YtcdccjagknlmpaaGreatDoorOk
namespace Go.Proofs.YtcdccjagknlmpaaGreatDoor
open Go.Sim

theorem arnd_ok {p n : Int} (hp : I64 p) : Ok (fref01_Around p n) (fun r => 0 ≤ r ∧ (1 ≤ n → r < n)) := by
  have hp' := hp
  unfold I64 at hp'
  have key : ∀ q : Int, 0 ≤ q → Ok (if decide (n < 1) = true then some 0 else (nz n).bind fun _ => some (Int.tmod q n)) (fun r => 0 ≤ r ∧ (1 ≤ n → r < n)) := fun q hq => by
    refine Ok.ite (fun h => ?_) (fun h => ?_)
    · have : n < 1 := of_decide_eq_true h
      exact Ok.mk ⟨Int.le_refl _, fun h => by omega⟩
    · have : ¬ n < 1 := of_decide_eq_false h
      rw [nz_of (by omega)]
      exact Ok.mk ⟨Int.tmod_nonneg _ hq, fun _ => Int.tmod_lt_of_pos _ (by omega)⟩
  unfold fref01_Around
  refine Ok.bind (P := fun q => 0 ≤ q) (Ok.ite (fun h => ?_) (fun h => ?_)) (fun q hq => key q hq)
  · have : p < 0 := of_decide_eq_true h
    refine Ok.mk ?_
    have e1 : IntKind.i64.wrap (p + 1) = p + 1 := w64 (by omega) (by omega)
    rw [e1, w64 (by omega) (by omega)]; omega
  · have : ¬ p < 0 := of_decide_eq_false h
    exact Ok.mk (by omega)
section
variable {β : Type} {Q : β → Prop}
theorem Ok.arnd {p n : Int} {f : Int → Option β} (hp : I64 p) (hn : 1 ≤ n) (k : ∀ r, 0 ≤ r → r < n → Ok (f r) Q) : Ok ((fref01_Around p n).bind f) Q :=
  (arnd_ok hp).bind fun r h => k r h.1 (h.2 hn)
theorem at_ok {l : List Int} {i n : Int} (hl : ∀ x ∈ l, I64 x) (hn : 1 ≤ n) : Ok (fref01_At l i n) (fun r => 0 ≤ r ∧ r < n) := by
  unfold fref01_At
  refine Ok.ite (fun h => Ok.mk ⟨Int.le_refl _, by omega⟩) (fun h => ?_)
  simp only [Bool.or_eq_false_iff, decide_eq_false_iff_not] at h
  refine Ok.idx (by omega) (by omega) fun v hv _ => ?_
  exact Ok.arnd (hl v hv) hn fun r h0 h1 => Ok.mk ⟨h0, h1⟩
theorem Ok.at1 {l : List Int} {i n : Int} {f : Int → Option β} (hl : ∀ x ∈ l, I64 x) (hn : 1 ≤ n) (k : ∀ r, 0 ≤ r → r < n → Ok (f r) Q) : Ok ((fref01_At l i n).bind f) Q :=
  (at_ok hl hn).bind fun r h => k r h.1 h.2
end
/-- A limit that is valid for n kinds, of the generator. -/
def LOk (n : Int) (x : Sref13_Limit) : Prop := 0 ≤ x.A ∧ x.A < n ∧ -1 ≤ x.B ∧ x.B < n ∧ 0 ≤ x.Mul ∧ x.Mul ≤ 5
theorem made_ok {l : List Int} {n : Int} (hl : ∀ x ∈ l, I64 x) (h0 : 1 ≤ n) (hn : n ≤ 1000) : Ok (fref13_Made l n) (fun r => r.length ≤ 10 ∧ ∀ x ∈ r, LOk n x) := by
  unfold fref13_Made
  refine Ok.bind (P := fun r : List Sref13_Limit => r.length ≤ 10 ∧ ∀ x ∈ r, LOk n x) (Ok.loop (fun m s => 0 ≤ s.1 ∧ s.1 = s.2.length ∧ s.1 + m = 10 ∧ ∀ x ∈ s.2, LOk n x) 10 ⟨Int.le_refl _, rfl, by simp, fun x hx => by cases hx⟩ fun m s hs => ?_) (fun r hr => Ok.mk hr)
  obtain ⟨h1, h2, h3, h4⟩ := hs
  refine Ok.ite (fun h => ?_) (fun h => ?_)
  · simp only [Bool.and_eq_true, decide_eq_true_eq] at h
    refine Ok.at1 hl h0 fun a a0 a1 => ?_
    rw [w64 (n := n + 1) (by omega) (by omega)]
    refine Ok.at1 hl (by omega) fun b b0 b1 => ?_
    refine Ok.at1 hl (by decide) fun c c0 c1 => ?_
    refine Ok.idx c0 c1 fun d hd _ => ?_
    refine Ok.at1 hl (by decide) fun e e0 e1 => ?_
    refine Ok.rm (by simp; omega) (Ok.mk ⟨m - 1, by omega, ?_, ?_, ?_, ?_⟩)
    · rw [w64 (by omega) (by omega)]; omega
    · rw [w64 (by omega) (by omega)]; simp; omega
    · rw [w64 (by omega) (by omega)]; omega
    · intro x hx
      rcases List.mem_append.1 hx with hx | hx
      · exact h4 x hx
      · rw [List.mem_singleton.1 hx, w64 (by omega) (by omega)]
        simp only [List.mem_cons, List.not_mem_nil, or_false] at hd
        exact ⟨a0, a1, by show -1 ≤ b - 1; omega, by show b - 1 < n; omega, by show 0 ≤ d; omega, by show d ≤ 5; omega⟩
  · exact Ok.mk ⟨by omega, h4⟩

/-- A limit of the model as one of the package. -/
def toC (x : Sref13_Limit) : Scounts_Limit := ⟨x.A, x.B, x.Mul, x.Least⟩
theorem given_is {l : List Sref13_Limit} (hl : l.length ≤ 1000000) : flaw13_given l = some (l.map toC) := by
  unfold flaw13_given
  rw [map_loop l toC (fun k hk acc ha => ?_) (fun acc => by rw [if_neg (by simp)])]; · rfl
  dsimp only
  rw [if_pos (by simpa using hk), idx_lt hk]
  simp only [Option.bind_some]
  rw [rm_le (by simp; omega), w64_succ hk (by omega)]
  rfl

/-! Holds -/

def validL (l : Scounts_Limit) (n : Int) : Bool := (((((decide (l.A ≥ 0)) && (decide (l.A < n))) && (decide (l.B ≥ -1))) && (decide (l.B < n))) && (decide (l.Mul ≥ 0))) && (decide (l.Mul ≤ 65536))
def isN (x : Int) : Bool := decide (0 ≤ x) && decide (x ≤ 65536)
def numL (c : List Int) : Bool := c.all isN
def nth (c : List Int) (i : Int) : Int := c.getD i.toNat 0
def bndS (l : Scounts_Limit) (c : List Int) : Int := if l.B < 0 then l.Mul else l.Mul * nth c l.B
def keepS (l : Scounts_Limit) (c : List Int) : Bool := if l.Least = true then decide (nth c l.A ≥ bndS l c) else decide (nth c l.A ≤ bndS l c)
def holdsS (l : Scounts_Limit) (c : List Int) : Bool := (validL l c.length && numL c) && keepS l c

structure VL (l : Scounts_Limit) (n : Int) : Prop where
  a0 : 0 ≤ l.A
  a1 : l.A < n
  b0 : -1 ≤ l.B
  b1 : l.B < n
  m0 : 0 ≤ l.Mul
  m1 : l.Mul ≤ 65536
theorem validL_iff {l : Scounts_Limit} {n : Int} : validL l n = true ↔ VL l n := by
  simp only [validL, Bool.and_eq_true, decide_eq_true_eq]
  exact ⟨fun ⟨⟨⟨⟨⟨h1, h2⟩, h3⟩, h4⟩, h5⟩, h6⟩ => ⟨h1, h2, h3, h4, h5, h6⟩, fun h => ⟨⟨⟨⟨⟨h.a0, h.a1⟩, h.b0⟩, h.b1⟩, h.m0⟩, h.m1⟩⟩
theorem isN_iff {x : Int} : isN x = true ↔ 0 ≤ x ∧ x ≤ 65536 := by simp [isN]
theorem numL_iff {c : List Int} : numL c = true ↔ ∀ x ∈ c, 0 ≤ x ∧ x ≤ 65536 := by
  unfold numL
  rw [List.all_eq_true]
  exact ⟨fun h x hx => isN_iff.1 (h x hx), fun h x hx => isN_iff.2 (h x hx)⟩
theorem idx_nth {c : List Int} {i : Int} (h0 : 0 ≤ i) (h1 : i < c.length) : idx c i = some (nth c i) := by
  have hlt : i.toNat < c.length := by omega
  rw [idx_int c h0, List.getElem?_eq_getElem hlt]
  unfold nth
  rw [List.getD_eq_getElem?_getD, List.getElem?_eq_getElem hlt]
  rfl
theorem nth_mem {c : List Int} {i : Int} (h0 : 0 ≤ i) (h1 : i < c.length) : nth c i ∈ c := by
  have hlt : i.toNat < c.length := by omega
  unfold nth
  rw [List.getD_eq_getElem?_getD, List.getElem?_eq_getElem hlt]
  exact List.getElem_mem hlt
theorem nth_num {c : List Int} {i : Int} (hc : ∀ x ∈ c, 0 ≤ x ∧ x ≤ 65536) (h0 : 0 ≤ i) (h1 : i < c.length) : 0 ≤ nth c i ∧ nth c i ≤ 65536 := hc _ (nth_mem h0 h1)
theorem mul_num {a b : Int} (a0 : 0 ≤ a) (a1 : a ≤ 65536) (b0 : 0 ≤ b) (b1 : b ≤ 65536) : 0 ≤ a * b ∧ a * b ≤ 4294967296 :=
  ⟨Int.mul_nonneg a0 b0, Int.le_trans (Int.mul_le_mul a1 b1 b0 (by decide)) (by decide)⟩
theorem bound_is {l : Scounts_Limit} {c : List Int} (hv : VL l c.length) (hc : ∀ x ∈ c, 0 ≤ x ∧ x ≤ 65536) : fcounts_Limit_bound l c = some (bndS l c) := by
  unfold fcounts_Limit_bound bndS
  by_cases hb : l.B < 0
  · rw [if_pos (by simpa using hb), if_pos hb]
  · have hb0 : 0 ≤ l.B := by omega
    rw [if_neg (by simpa using hb), if_neg hb, idx_nth hb0 hv.b1]
    have hm := mul_num hv.m0 hv.m1 (nth_num hc hb0 hv.b1).1 (nth_num hc hb0 hv.b1).2
    show some (IntKind.i64.wrap (l.Mul * nth c l.B)) = _
    rw [w64 (by omega) (by omega)]
theorem keeps_is {l : Scounts_Limit} {c : List Int} (hv : VL l c.length) (hc : ∀ x ∈ c, 0 ≤ x ∧ x ≤ 65536) : fcounts_Limit_holds l c = some (keepS l c) := by
  unfold fcounts_Limit_holds keepS
  rw [idx_nth hv.a0 hv.a1, bound_is hv hc]
  cases l.Least <;> rfl

/-- The index of the first element that is so; -1: none is. -/
def fIx {α : Type} (s : List α) (p : α → Bool) : Int := match s.findIdx? p with | some k => (k : Int) | none => -1
theorem fIx_any {α : Type} (s : List α) (p : α → Bool) : decide (fIx s p ≥ 0) = s.any p := by
  unfold fIx
  cases h : s.findIdx? p with
  | none =>
    rw [List.findIdx?_eq_none_iff] at h
    have : s.any p = false := by rw [List.any_eq_false]; intro x hx; simpa using h x hx
    rw [this]; rfl
  | some k =>
    obtain ⟨hk, hp, _⟩ := List.findIdx?_eq_some_iff_getElem.1 h
    have : s.any p = true := List.any_eq_true.2 ⟨_, List.getElem_mem hk, hp⟩
    rw [this]
    exact decide_eq_true (Int.natCast_nonneg k)
theorem first_loop {α : Type} (s : List α) (p : α → Bool) {body : Int → Option (Int ⊕ (Unit ⊕ Int))}
    (hb : ∀ k (h : k < s.length), body (k : Int) = if p s[k] = true then some (.inr (.inr (k : Int))) else some (.inl ((k + 1 : Nat) : Int))) (he : body (s.length : Int) = some (.inr (.inl ()))) :
    tailrec body (0 : Int) = some (match s.findIdx? p with | some k => .inr (k : Int) | none => .inl ()) := by
  obtain ⟨q, hq⟩ : ∃ q : Nat → Bool, ∀ k (h : k < s.length), q k = p s[k] := ⟨fun k => if h : k < s.length then p s[k] else false, fun k h => dif_pos h⟩
  rcases tailrec_scan (ρ := Unit ⊕ Int) s.length q (.inl ()) (fun k => .inr (k : Int))
    (fun k hk hp => by rw [hb k hk, if_neg (by rw [← hq k hk, hp]; decide)]) (fun k hk hp => by rw [hb k hk, if_pos (by rw [← hq k hk, hp])]) he with ⟨k, hk, hp, hj, e⟩ | ⟨hp, e⟩
  · have : s.findIdx? p = some k := by
      rw [List.findIdx?_eq_some_iff_getElem]
      refine ⟨hk, by rw [← hq k hk, hp], fun j hj' => ?_⟩
      have := hj j hj'
      rw [hq j (by omega)] at this
      simp [this]
    rw [e, this]
  · have : s.findIdx? p = none := by
      rw [List.findIdx?_eq_none_iff]
      intro x hx
      obtain ⟨k, hk, rfl⟩ := List.getElem_of_mem hx
      have := hp k hk
      rwa [hq k hk] at this
    rw [e, this]
theorem numbers_is {c : List Int} (hc : c.length ≤ 1000000) : fref13_Numbers c = some (numL c) := by
  unfold fref13_Numbers
  rw [scan_all c isN false (fun k hk => ?_) (by rw [if_neg (by simp)])]
  · unfold numL; cases c.all isN <;> rfl
  · rw [if_pos (by simpa using hk), idx_lt hk]
    simp only [Option.bind_some, w64_succ hk (show c.length ≤ 9223372036854775807 by omega)]
    by_cases hx : c[k] < 0
    · have : isN c[k] = false := by simp [isN]; omega
      simp [hx, this, opt]
    · have e : decide (c[k] < 0) = false := by simpa using hx
      rw [e, show (false == false) = true from rfl, opt_true]
      simp only [Option.bind_some, Bool.false_or]
      by_cases h2 : c[k] > 65536
      · have : isN c[k] = false := by simp [isN]; omega
        rw [if_pos (by simpa using h2), this]; rfl
      · have : isN c[k] = true := by simp [isN]; omega
        rw [if_neg (by simpa using h2), this]; rfl
theorem rHolds_is {l : Sref13_Limit} {c : List Int} (hc : c.length ≤ 1000000) : fref13_Holds l c = some (holdsS (toC l) c) := by
  unfold fref13_Holds
  have h1 : fref13_Valid l (c.length : Int) = some (validL (toC l) c.length) := rfl
  rw [h1]
  simp only [Option.bind_some]
  unfold holdsS
  cases hv : validL (toC l) c.length with
  | false => rfl
  | true =>
    rw [show ((!true) == false) = true from rfl, opt_true, numbers_is hc]
    simp only [Option.bind_some]
    cases hn : numL c with
    | false => rfl
    | true =>
      have hv := validL_iff.1 hv
      have hc' := numL_iff.1 hn
      rw [if_neg (by decide)]
      have hb : ((if decide (l.B ≥ 0) = true then (idx c l.B).bind fun t26 => some (IntKind.i64.wrap (l.Mul * t26)) else some l.Mul)) = some (bndS (toC l) c) := by
        rw [← bound_is hv hc']
        unfold fcounts_Limit_bound
        by_cases hb : l.B < 0
        · rw [if_neg (by simp; omega), if_pos (decide_eq_true (show (toC l).B < 0 from hb))]; rfl
        · rw [if_pos (by simp; omega), if_neg (by rw [decide_eq_true_eq]; exact hb)]; rfl
      rw [hb]
      have ha : idx c l.A = some (nth c l.A) := idx_nth hv.a0 hv.a1
      simp only [Option.bind_some, ha]
      unfold keepS
      show (if l.Least = true then _ else _) = some ((true && true) && (if l.Least = true then _ else _))
      cases l.Least <;> rfl

end Go.Proofs.YtcdccjagknlmpaaGreatDoor
