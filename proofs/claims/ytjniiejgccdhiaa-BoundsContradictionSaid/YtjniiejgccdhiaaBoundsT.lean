/- Package bounds: closed ways, simple ones, and the layers of the search. No condition. -/
import Derived.Test.YtjniiejgccdhiaaBoundsQ
import Derived.Test.YtjniiejgccdhiaaBoundsR
namespace Go.Proofs.Ytjniiejgccdhiaa
open Go.Sim

def walk : Nat → Nat → List Ed → Prop
  | i, k, [] => i = k
  | i, k, e :: es => e.a = i ∧ walk e.b k es
def esum (es : List Ed) : Int := (es.map Ed.w).sum
theorem esum_cons {e : Ed} {es : List Ed} : esum (e :: es) = e.w + esum es := by simp [esum]
theorem esum_app {a b : List Ed} : esum (a ++ b) = esum a + esum b := by simp [esum]
theorem walk_app {es fs : List Ed} : ∀ {i k : Nat}, walk i k (es ++ fs) ↔ ∃ j, walk i j es ∧ walk j k fs := by
  induction es with
  | nil => intro i k; simp [walk]
  | cons e es ih =>
    intro i k
    simp only [List.cons_append, walk, ih]
    constructor
    · rintro ⟨h1, j, h2, h3⟩; exact ⟨j, ⟨h1, h2⟩, h3⟩
    · rintro ⟨j, ⟨h1, h2⟩, h3⟩; exact ⟨h1, j, h2, h3⟩
theorem way_walk {E : List Ed} {i k : Nat} {w : Int} (h : Way E i k w) : ∃ es, walk i k es ∧ esum es = w ∧ ∀ e ∈ es, e ∈ E := by
  induction h with
  | nil i => exact ⟨[], rfl, rfl, fun e he => by cases he⟩
  | @cons e k w he _ ih =>
    obtain ⟨es, h1, h2, h3⟩ := ih
    refine ⟨e :: es, ⟨rfl, h1⟩, by rw [esum_cons, h2], fun x hx => ?_⟩
    rcases List.mem_cons.1 hx with rfl | hx
    · exact he
    · exact h3 x hx
theorem walk_way {E : List Ed} : ∀ {es : List Ed} {i k : Nat}, walk i k es → (∀ e ∈ es, e ∈ E) → Way E i k (esum es) := by
  intro es
  induction es with
  | nil => intro i k h _; cases h; exact .nil i
  | cons e es ih =>
    intro i k h hm
    obtain ⟨rfl, h⟩ := h
    rw [esum_cons]
    exact .cons (hm e (List.mem_cons_self ..)) (ih h fun x hx => hm x (List.mem_cons_of_mem _ hx))

theorem not_nodup {l : List Ed} (h : ¬ (l.map Ed.a).Nodup) : ∃ p e q f r, l = p ++ e :: (q ++ f :: r) ∧ e.a = f.a := by
  induction l with
  | nil => simp at h
  | cons x l ih =>
    rw [List.map_cons, List.nodup_cons] at h
    by_cases hx : x.a ∈ l.map Ed.a
    · obtain ⟨f, hf, he⟩ := List.mem_map.1 hx
      obtain ⟨q, r, rfl⟩ := List.append_of_mem hf
      exact ⟨[], x, q, f, r, rfl, he.symm⟩
    · obtain ⟨p, e, q, f, r, rfl, h2⟩ := ih fun h2 => h ⟨hx, h2⟩
      exact ⟨x :: p, e, q, f, r, rfl, h2⟩

/-- In a closed way of negative sum there is one that meets no value twice. -/
theorem simple_neg : ∀ (n : Nat) (es : List Ed) (i : Nat), es.length ≤ n → walk i i es → esum es < 0 → ∃ j cs, walk j j cs ∧ esum cs < 0 ∧ (cs.map Ed.a).Nodup ∧ ∀ e ∈ cs, e ∈ es := by
  intro n
  induction n with
  | zero =>
    intro es i hn _ hs
    have : es = [] := List.eq_nil_of_length_eq_zero (by omega)
    subst this
    simp [esum] at hs
  | succ n ih =>
    intro es i hn hw hs
    by_cases hd : (es.map Ed.a).Nodup
    · exact ⟨i, es, hw, hs, hd, fun e he => he⟩
    · obtain ⟨p, e, q, f, r, rfl, hef⟩ := not_nodup hd
      obtain ⟨j, h1, h2⟩ := walk_app.1 hw
      obtain ⟨h3, h4⟩ := h2
      obtain ⟨j2, h5, h6⟩ := walk_app.1 h4
      obtain ⟨h7, h8⟩ := h6
      have c1 : walk e.a e.a (e :: q) := ⟨rfl, by rw [hef, h7]; exact h5⟩
      have c2 : walk i i (p ++ f :: r) := walk_app.2 ⟨j, h1, by rw [← h3, hef]; exact ⟨rfl, h8⟩⟩
      have hsum : esum (p ++ e :: (q ++ f :: r)) = esum (e :: q) + esum (p ++ f :: r) := by
        simp only [esum_app, esum_cons]; omega
      rw [hsum] at hs
      simp only [List.length_append, List.length_cons] at hn
      by_cases hneg : esum (e :: q) < 0
      · obtain ⟨j, cs, g1, g2, g3, g4⟩ := ih (e :: q) e.a (by simp only [List.length_cons]; omega) c1 hneg
        refine ⟨j, cs, g1, g2, g3, fun x hx => ?_⟩
        have := g4 x hx
        simp only [List.mem_append, List.mem_cons] at this ⊢
        rcases this with h | h
        · exact .inr (.inl h)
        · exact .inr (.inr (.inl h))
      · obtain ⟨j, cs, g1, g2, g3, g4⟩ := ih (p ++ f :: r) i (by simp only [List.length_append, List.length_cons]; omega) c2 (by omega)
        refine ⟨j, cs, g1, g2, g3, fun x hx => ?_⟩
        have := g4 x hx
        simp only [List.mem_append, List.mem_cons] at this ⊢
        rcases this with h | h | h
        · exact .inl h
        · exact .inr (.inr (.inr (.inl h)))
        · exact .inr (.inr (.inr (.inr h)))

/-! Layers -/

theorem relax_val {L : Nat → Int} : ∀ (tl : List Ed) (r : Nat → Int) (v : Nat), (tl.foldl (relax L) r) v = r v ∨ ∃ x ∈ tl, x.a = v ∧ L x.b < INF ∧ (tl.foldl (relax L) r) v = IntKind.i64.wrap (L x.b + x.w) := by
  intro tl
  induction tl with
  | nil => intro r v; exact .inl rfl
  | cons x tl ih =>
    intro r v
    rw [List.foldl_cons]
    rcases ih (relax L r x) v with h | ⟨y, hy, h1, h2, h3⟩
    · by_cases hL : L x.b < INF
      · have e : relax L r x v = if v = x.a then imin (r x.a) (IntKind.i64.wrap (L x.b + x.w)) else r v := by unfold relax; rw [if_pos hL]; rfl
        rw [e] at h
        by_cases hv : v = x.a
        · rw [if_pos hv] at h
          rcases (imin_le (r x.a) (IntKind.i64.wrap (L x.b + x.w))).2.2 with g | g
          · rw [g] at h; left; rw [h, hv]
          · rw [g] at h; right; exact ⟨x, List.mem_cons_self .., hv.symm, hL, h⟩
        · rw [if_neg hv] at h; exact .inl h
      · have e : relax L r x = r := by unfold relax; rw [if_neg hL]
        rw [e] at h; left; rw [e]; exact h
    · exact .inr ⟨y, List.mem_cons_of_mem _ hy, h1, h2, h3⟩
theorem relax_le0 {L : Nat → Int} : ∀ (tl : List Ed) (r : Nat → Int) (v : Nat), (tl.foldl (relax L) r) v ≤ r v := by
  intro tl
  induction tl with
  | nil => intro r v; exact Int.le_refl _
  | cons x tl ih =>
    intro r v
    rw [List.foldl_cons]
    refine Int.le_trans (ih _ v) ?_
    unfold relax
    split
    · unfold upd1
      split
      · next h => rw [h]; exact (imin_le _ _).1
      · exact Int.le_refl _
    · exact Int.le_refl _
theorem relax_le {L : Nat → Int} : ∀ (tl : List Ed) (r : Nat → Int) (x : Ed), x ∈ tl → L x.b < INF → (tl.foldl (relax L) r) x.a ≤ IntKind.i64.wrap (L x.b + x.w) := by
  intro tl
  induction tl with
  | nil => intro r x hx; cases hx
  | cons y tl ih =>
    intro r x hx hL
    rw [List.foldl_cons]
    rcases List.mem_cons.1 hx with rfl | hx
    · refine Int.le_trans (relax_le0 _ _ _) ?_
      unfold relax
      rw [if_pos hL, upd1_same]
      exact (imin_le _ _).2.1
    · exact ih _ x hx hL

def SmallW (tl : List Ed) : Prop := ∀ x ∈ tl, -2097152 ≤ x.w ∧ x.w ≤ 2097152
theorem lay_bd {a0 : Nat} {tl : List Ed} (hs : SmallW tl) : ∀ s, s ≤ 100 → ∀ v, lay a0 tl s v = INF ∨ (-(s : Int) * 2097152 ≤ lay a0 tl s v ∧ lay a0 tl s v ≤ (s : Int) * 2097152) := by
  intro s
  induction s with
  | zero =>
    intro _ v
    show upd1 (fun _ => INF) a0 0 v = INF ∨ _
    unfold lay upd1
    by_cases h : v = a0
    · right; rw [if_pos h]; omega
    · left; rw [if_neg h]
  | succ s ih =>
    intro hs100 v
    have u0 : INF = 1099511627776 := rfl
    rcases relax_val (L := lay a0 tl s) tl (fun _ => INF) v with h | ⟨x, hx, h1, h2, h3⟩
    · exact .inl h
    · right
      have e : lay a0 tl (s + 1) v = IntKind.i64.wrap (lay a0 tl s x.b + x.w) := h3
      have hw := hs x hx
      rcases ih (by omega) x.b with g | g
      · omega
      · rw [w64 (by omega) (by omega)] at e
        rw [e]; omega
theorem lay_step {a0 : Nat} {tl : List Ed} (hs : SmallW tl) {s : Nat} (h100 : s < 100) {v : Nat} (h : lay a0 tl (s + 1) v < INF) : ∃ x ∈ tl, x.a = v ∧ lay a0 tl s x.b < INF ∧ lay a0 tl (s + 1) v = lay a0 tl s x.b + x.w := by
  have u0 : INF = 1099511627776 := rfl
  rcases relax_val (L := lay a0 tl s) tl (fun _ => INF) v with g | ⟨x, hx, h1, h2, h3⟩
  · have e : lay a0 tl (s + 1) v = INF := g
    omega
  · have e : lay a0 tl (s + 1) v = IntKind.i64.wrap (lay a0 tl s x.b + x.w) := h3
    have hw := hs x hx
    have hb := lay_bd (a0 := a0) hs s (by omega) x.b
    rw [w64 (by omega) (by omega)] at e
    exact ⟨x, hx, h1, h2, e⟩
theorem lay_le {a0 : Nat} {tl : List Ed} (hs : SmallW tl) : ∀ (es : List Ed) (v : Nat), es.length ≤ 100 → walk v a0 es → (∀ e ∈ es, e ∈ tl) → lay a0 tl es.length v < INF ∧ lay a0 tl es.length v ≤ esum es := by
  intro es
  have u0 : INF = 1099511627776 := rfl
  induction es with
  | nil =>
    intro v _ h _
    have h : v = a0 := h
    subst h
    show upd1 (fun _ => INF) v 0 v < INF ∧ upd1 (fun _ => INF) v 0 v ≤ esum []
    rw [upd1_same]
    exact ⟨by omega, by simp [esum]⟩
  | cons e es ih =>
    intro v hl h hm
    obtain ⟨rfl, h⟩ := h
    simp only [List.length_cons] at hl ⊢
    obtain ⟨h1, h2⟩ := ih e.b (by omega) h fun x hx => hm x (List.mem_cons_of_mem _ hx)
    have he := hm e (List.mem_cons_self ..)
    have h3 := relax_le (L := lay a0 tl es.length) tl (fun _ => INF) e he h1
    have e3 : lay a0 tl (es.length + 1) e.a ≤ IntKind.i64.wrap (lay a0 tl es.length e.b + e.w) := h3
    have hw := hs e he
    have hb := lay_bd (a0 := a0) hs es.length (by omega) e.b
    rw [w64 (by omega) (by omega)] at e3
    rw [esum_cons]
    omega

end Go.Proofs.Ytjniiejgccdhiaa
