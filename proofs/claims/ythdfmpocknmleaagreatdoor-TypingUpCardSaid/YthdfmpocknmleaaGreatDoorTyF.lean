/- Names lead to indices: both ways of looking. No condition. -/
import Derived.Test.YthdfmpocknmleaaGreatDoorTyE
namespace Go.Proofs.YthdfmpocknmleaaGreatDoor
open Go.Sim

/-- The index of the first element that is so; -1: none is. -/
def firstIdx {α : Type} (s : List α) (p : α → Bool) : Int := match s.findIdx? p with | some k => (k : Int) | none => -1
theorem firstIdx_range {α : Type} (s : List α) (p : α → Bool) : -1 ≤ firstIdx s p ∧ firstIdx s p < s.length := by
  unfold firstIdx
  cases h : s.findIdx? p with
  | none => exact ⟨by decide, by show (-1:Int) < _; omega⟩
  | some k =>
    have := (List.findIdx?_eq_some_iff_getElem.1 h).1
    exact ⟨by show (-1:Int) ≤ (k:Int); omega, by show (k:Int) < _; omega⟩
theorem tailrec_first {α : Type} (s : List α) (p : α → Bool) {body : Int → Option (Int ⊕ (Unit ⊕ Int))}
    (hb : ∀ k (h : k < s.length), body (k : Int) = if p s[k] = true then some (.inr (.inr (k : Int))) else some (.inl ((k + 1 : Nat) : Int))) (he : body (s.length : Int) = some (.inr (.inl ()))) :
    tailrec body (0 : Int) = some (match s.findIdx? p with | some k => .inr (k : Int) | none => .inl ()) := by
  obtain ⟨q, hq⟩ : ∃ q : Nat → Bool, ∀ k (h : k < s.length), q k = p s[k] := ⟨fun k => if h : k < s.length then p s[k] else false, fun k h => dif_pos h⟩
  rcases tailrec_scan (ρ := Unit ⊕ Int) s.length q (.inl ()) (fun k => .inr (k : Int))
    (fun k hk hp => by rw [hb k hk, if_neg (by rw [← hq k hk, hp]; decide)]) (fun k hk hp => by rw [hb k hk, if_pos (by rw [← hq k hk, hp])]) he with ⟨k, hk, hp, hj, e⟩ | ⟨hp, e⟩
  · have : s.findIdx? p = some k := by
      rw [List.findIdx?_eq_some_iff_getElem]
      refine ⟨hk, by rw [← hq k hk, hp], fun j hj' => ?_⟩
      have := hj j hj'
      rw [hq j (by omega)] at this
      simp [this]
    rw [e, this]
  · have : s.findIdx? p = none := by
      rw [List.findIdx?_eq_none_iff]
      intro x hx
      obtain ⟨k, hk, rfl⟩ := List.getElem_of_mem hx
      have := hp k hk
      rwa [hq k hk] at this
    rw [e, this]

section
variable {p : Sapi_Kind → Bool} {q : Sapi_Field → Bool}
theorem indexKind {s : List Sapi_Kind} {f : Sapi_Kind → Option Bool} (hs : s.length ≤ 1000000) (hf : ∀ x ∈ s, f x = some (p x)) : fslices_IndexFunc_Kind s f = some (firstIdx s p) := by
  unfold fslices_IndexFunc_Kind
  rw [tailrec_first s p (fun k hk => ?_) ?_]
  · unfold firstIdx; cases s.findIdx? p <;> rfl
  · rw [if_neg (by simp)]
  · rw [if_pos (by simpa using hk), idx_lt hk]
    show (f s[k]).bind _ = _
    rw [hf _ (List.getElem_mem hk), w64_succ hk (by omega)]; rfl
theorem indexField {s : List Sapi_Field} {f : Sapi_Field → Option Bool} (hs : s.length ≤ 1000000) (hf : ∀ x ∈ s, f x = some (q x)) : fslices_IndexFunc_Field s f = some (firstIdx s q) := by
  unfold fslices_IndexFunc_Field
  rw [tailrec_first s q (fun k hk => ?_) ?_]
  · unfold firstIdx; cases s.findIdx? q <;> rfl
  · rw [if_neg (by simp)]
  · rw [if_pos (by simpa using hk), idx_lt hk]
    show (f s[k]).bind _ = _
    rw [hf _ (List.getElem_mem hk), w64_succ hk (by omega)]; rfl
end

/-- The kind, the field with a name. -/
def kindIx (x : Sapi_Schema) (n : Str) : Int := firstIdx x.Kinds fun k => k.Name == n
def fieldIx (k : Sapi_Kind) (n : Str) : Int := firstIdx k.Fields fun f => f.Name == n
theorem typing_Kind_is {x : Sapi_Schema} {n : Str} (hx : x.Kinds.length ≤ 1000000) : ftyping_Kind x n = some (kindIx x n) := by
  unfold ftyping_Kind
  rw [indexKind (f := fun x0 => ftyping_Kindq1 x0 n) (p := fun k => k.Name == n) hx (fun k _ => rfl)]; rfl
theorem typing_Field_is {k : Sapi_Kind} {n : Str} (hx : k.Fields.length ≤ 1000000) : ftyping_Field k n = some (fieldIx k n) := by
  unfold ftyping_Field
  rw [indexField (f := fun x0 => ftyping_Fieldq1 x0 n) (q := fun k => k.Name == n) hx (fun k _ => rfl)]; rfl
/-- The field of a schema, if there is one. -/
def field? (x : Sapi_Schema) (k j : Int) : Option Sapi_Field := if 0 ≤ k ∧ 0 ≤ j then x.Kinds[k.toNat]?.bind fun q => q.Fields[j.toNat]? else none
def zeroField : Sapi_Field := Sapi_Field.mk [] [] [] 0 0 0 [] []
theorem field_some {x : Sapi_Schema} {k j : Int} {f : Sapi_Field} (h : field? x k j = some f) : ∃ q, 0 ≤ k ∧ 0 ≤ j ∧ idx x.Kinds k = some q ∧ idx q.Fields j = some f ∧ q ∈ x.Kinds ∧ k < x.Kinds.length ∧ j < q.Fields.length := by
  unfold field? at h
  split at h
  · rename_i hk
    obtain ⟨q, h1, h2⟩ := Option.bind_eq_some_iff.1 h
    refine ⟨q, hk.1, hk.2, by rw [idx_int _ hk.1, h1], by rw [idx_int _ hk.2, h2], List.mem_of_getElem? h1, ?_, ?_⟩
    · have := (List.getElem?_eq_some_iff.1 h1).1; omega
    · have := (List.getElem?_eq_some_iff.1 h2).1; omega
  · cases h
theorem field_of {x : Sapi_Schema} {k j : Int} {q : Sapi_Kind} {f : Sapi_Field} (hk : 0 ≤ k) (hj : 0 ≤ j) (h1 : idx x.Kinds k = some q) (h2 : idx q.Fields j = some f) : field? x k j = some f := by
  rw [idx_int _ hk] at h1; rw [idx_int _ hj] at h2
  unfold field?
  rw [if_pos ⟨hk, hj⟩, h1]; exact h2
theorem idx_some {α : Type} {l : List α} {i : Int} (h0 : 0 ≤ i) (h1 : i < l.length) : ∃ v, idx l i = some v ∧ v ∈ l := by
  have hlt : i.toNat < l.length := by omega
  exact ⟨l[i.toNat], by rw [idx_int l h0, List.getElem?_eq_getElem hlt], List.getElem_mem hlt⟩
theorem at_is (x : Sapi_Schema) (k j : Int) : ftyping_at x k j = some (match field? x k j with | some f => (f, true) | none => (zeroField, false)) := by
  unfold ftyping_at
  by_cases hc : (0 ≤ k ∧ k < x.Kinds.length) ∧ 0 ≤ j
  · obtain ⟨⟨h1, h2⟩, h3⟩ := hc
    obtain ⟨q, hq, _⟩ := idx_some h1 h2
    have c : ((decide (k < 0) || decide (k ≥ (x.Kinds.length : Int))) || decide (j < 0)) = false := by simp; omega
    rw [c, hq]
    show (if (false || decide (j ≥ (q.Fields.length : Int))) = true then _ else _) = _
    by_cases h4 : j < q.Fields.length
    · obtain ⟨f, hf, _⟩ := idx_some h3 h4
      rw [if_neg (by simp; omega), field_of h1 h3 hq hf]
      show (idx q.Fields j).bind _ = _
      rw [hf]; rfl
    · rw [if_pos (by simp; omega)]
      have : field? x k j = none := by
        cases h : field? x k j with
        | none => rfl
        | some f =>
          obtain ⟨q', _, _, e1, e2, _, _, e3⟩ := field_some h
          rw [hq] at e1; cases e1; exact (h4 e3).elim
      rw [this]; rfl
  · have c : ((decide (k < 0) || decide (k ≥ (x.Kinds.length : Int))) || decide (j < 0)) = true := by simp; omega
    rw [c]
    have : field? x k j = none := by
      cases h : field? x k j with
      | none => rfl
      | some f =>
        obtain ⟨q', e1, e2, _, _, _, e3, _⟩ := field_some h
        exact (hc ⟨⟨e1, e3⟩, e2⟩).elim
    rw [this]; rfl
end Go.Proofs.YthdfmpocknmleaaGreatDoor
