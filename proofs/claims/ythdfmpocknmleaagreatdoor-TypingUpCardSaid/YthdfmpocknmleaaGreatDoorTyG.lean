/- Up and Shares: both ways. No condition. -/
import Derived.Test.YthdfmpocknmleaaGreatDoorTyF
namespace Go.Proofs.YthdfmpocknmleaaGreatDoor
open Go.Sim

/-- What the way up needs of a schema: it is small. -/
def Few (x : Sapi_Schema) : Prop := x.Kinds.length ≤ 1000 ∧ ∀ k ∈ x.Kinds, k.Fields.length ≤ 1000
theorem Sz.few {x : Sapi_Schema} (h : Sz x) : Few x := ⟨by have := h.1.1; omega, fun k hk => by have := (h.1.2 k hk).1; omega⟩

def refIx (x : Sapi_Schema) (k : Int) (g : Sapi_Field) : Int := if kindIx x g.Of < k then kindIx x g.Of else -1
/-- The kind to which a field leads. -/
def upIx (x : Sapi_Schema) (k j : Int) : Int :=
  match field? x k j with
  | none => -1
  | some f =>
    if f.Kind = 7 ∨ f.Kind = 8 then
      match idx x.Kinds k with
      | none => -1
      | some q => if fieldIx q f.Up < j then (match field? x k (fieldIx q f.Up) with | some g => if g.Kind = 1 then refIx x k g else -1 | none => -1) else -1
    else if f.Kind = 1 then refIx x k f else -1

theorem upS_ref {x : Sapi_Schema} {k j : Int} {g : Sapi_Field} {self : Sapi_Schema → Int → Int → Option Int} (hx : Few x) (h : field? x k j = some g) (hg : g.Kind = 1) : ftyping_UpS self x k j = some (refIx x k g) := by
  unfold ftyping_UpS
  rw [at_is, h]
  simp only [Option.bind_some, Bool.not_true, hg]
  rw [if_neg (by decide), if_neg (by decide), if_neg (by decide), typing_Kind_is (by have := hx.1; omega)]
  simp only [Option.bind_some, refIx]
  by_cases hl : kindIx x g.Of < k
  · rw [if_pos (by simpa using hl), if_pos hl]
  · rw [if_neg (by simpa using hl), if_neg hl]
theorem upS_is {x : Sapi_Schema} {k j : Int} {self : Sapi_Schema → Int → Int → Option Int} (hx : Few x) (hs : ∀ u g, field? x k u = some g → g.Kind = 1 → self x k u = some (refIx x k g)) : ftyping_UpS self x k j = some (upIx x k j) := by
  cases hf : field? x k j with
  | none =>
    unfold ftyping_UpS upIx
    rw [at_is, hf]; rfl
  | some f =>
    by_cases h1 : f.Kind = 1
    · rw [upS_ref hx hf h1]
      unfold upIx
      rw [hf]
      simp [h1]
    unfold ftyping_UpS upIx
    rw [at_is, hf]
    simp only [Option.bind_some, Bool.not_true]
    rw [if_neg (by decide)]
    by_cases c : f.Kind = 7 ∨ f.Kind = 8
    · obtain ⟨q, hk, hj, hq, hqf, hqm, _, _⟩ := field_some hf
      rw [if_pos (by simpa using c), if_pos c, hq]
      simp only [Option.bind_some]
      rw [typing_Field_is (by have := hx.2 q hqm; omega)]
      simp only [Option.bind_some]
      rw [at_is]
      simp only [Option.bind_some]
      cases hg : field? x k (fieldIx q f.Up) with
      | none => simp
      | some g =>
        simp only
        by_cases hu : fieldIx q f.Up < j
        · by_cases hg1 : g.Kind = 1
          · rw [if_pos (by simp [hu, hg1]), hs _ g hg hg1, if_pos hu, if_pos hg1]; rfl
          · rw [if_neg (by simp [hg1]), if_pos hu, if_neg hg1]
        · rw [if_neg (by simp [hu]), if_neg hu]
    · rw [if_neg (by simpa using c), if_neg c, if_pos (by simpa using h1), if_neg h1]
theorem typing_Up_is {x : Sapi_Schema} {k j : Int} (hx : Few x) : ftyping_Up x k j = some (upIx x k j) := by
  unfold ftyping_Up
  exact upS_is hx fun u g h hg => upS_ref hx h hg
/-! Shares -/
theorem filt_succ (p : Nat → Bool) (k : Nat) : ((List.range (k + 1)).filter p).map Int.ofNat = if p k = true then ((List.range k).filter p).map Int.ofNat ++ [(k : Int)] else ((List.range k).filter p).map Int.ofNat := by
  rw [List.range_succ, List.filter_append, List.map_append]
  by_cases h : p k = true
  · rw [if_pos h]; simp [List.filter_cons, h]
  · rw [if_neg h]; simp [List.filter_cons, h]
theorem filt_len (p : Nat → Bool) (k : Nat) : (((List.range k).filter p).map Int.ofNat).length ≤ k := by
  rw [List.length_map]
  have := List.length_filter_le p (List.range k)
  simpa using this
def shareQ (x : Sapi_Schema) (o k : Int) (nm : Str) (fs : List Sapi_Field) (i : Nat) : Bool := match fs[i]? with | some g => g.Kind == 7 && g.Of == nm && upIx x o (i : Int) == k | none => false
def shl (x : Sapi_Schema) (o k : Int) (nm : Str) : List Int := match idx x.Kinds o with | some q => ((List.range q.Fields.length).filter (shareQ x o k nm q.Fields)).map Int.ofNat | none => []
def sumIx (x : Sapi_Schema) (k : Int) (f : Sapi_Field) : Int × List Int := if f.Kind ≠ 6 ∨ kindIx x f.Of ≤ k then (-1, []) else (kindIx x f.Of, shl x (kindIx x f.Of) k f.Name)
theorem kindIx_lt (x : Sapi_Schema) (n : Str) : -1 ≤ kindIx x n ∧ kindIx x n < x.Kinds.length := firstIdx_range _ _

theorem shares_is {x : Sapi_Schema} {k : Int} {f : Sapi_Field} (hx : Few x) (hk : 0 ≤ k) : ftyping_shares x k f = some (sumIx x k f) := by
  unfold ftyping_shares
  rw [typing_Kind_is (by have := hx.1; omega)]
  simp only [Option.bind_some]
  unfold sumIx
  by_cases c : f.Kind ≠ 6 ∨ kindIx x f.Of ≤ k
  · rw [if_pos (by simpa using c), if_pos c]
  rw [if_neg (by simpa using c), if_neg c]
  have c' : k < kindIx x f.Of := by
    rcases Int.lt_or_le k (kindIx x f.Of) with h | h
    · exact h
    · exact (c (.inr h)).elim
  obtain ⟨q, hq, hqm⟩ := idx_some (l := x.Kinds) (i := kindIx x f.Of) (by omega) (kindIx_lt x f.Of).2
  have hl := hx.2 q hqm
  rw [hq]
  simp only [Option.bind_some]
  refine for_bind q.Fields.length (fun n => ((n : Int), ((List.range n).filter (shareQ x (kindIx x f.Of) k f.Name q.Fields)).map Int.ofNat)) _ rfl (fun n hn => ?_) (if_neg (by simp)) ?_
  · rw [if_pos (by simpa using hn), idx_lt hn]
    simp only [Option.bind_some]
    rw [typing_Up_is hx]
    have e : shareQ x (kindIx x f.Of) k f.Name q.Fields n = (q.Fields[n].Kind == 7 && q.Fields[n].Of == f.Name && upIx x (kindIx x f.Of) (n : Int) == k) := by
      unfold shareQ; rw [List.getElem?_eq_getElem hn]
    have hle := filt_len (shareQ x (kindIx x f.Of) k f.Name q.Fields) n
    rw [filt_succ, e, w64_succ hn (by omega)]
    cases h1 : (q.Fields[n].Kind == 7 && q.Fields[n].Of == f.Name) with
    | false => rfl
    | true =>
      simp only [Sim.opt, Bool.true_and, if_true, beq_self_eq_true, Option.bind_some]
      cases h2 : upIx x (kindIx x f.Of) (n : Int) == k with
      | false => rfl
      | true =>
        rw [if_pos rfl, if_pos rfl, rm_le (by rw [List.length_singleton]; omega)]
        rfl
  · unfold shl; rw [hq]

/-- The kind and the field of the shares of a field. -/
def shareIx (x : Sapi_Schema) (k j : Int) : Int × Int := match field? x k j with | none => (-1, -1) | some f => match (sumIx x k f).2 with | [a] => ((sumIx x k f).1, a) | _ => (-1, -1)
theorem one_list {β : Type} (l : List Int) (o : Int) (g : Int × Int → β) : (if ((l.length : Int) != 1) = true then some (g (-1, -1)) else (idx l 0).bind fun t => some (g (o, t))) = some (g (match l with | [a] => (o, a) | _ => (-1, -1))) := by
  match l with
  | [] => rfl
  | [a] => rfl
  | a :: b :: l =>
    rw [if_pos (by simp; omega)]
theorem typing_Shares_is {x : Sapi_Schema} {k j : Int} (hx : Few x) : ftyping_Shares x k j = some (shareIx x k j) := by
  unfold ftyping_Shares shareIx
  rw [at_is]
  cases hf : field? x k j with
  | none => rfl
  | some f =>
    obtain ⟨_, hk, _⟩ := field_some hf
    simp only [Option.bind_some, Bool.not_true]
    rw [if_neg (by decide), shares_is hx hk]
    simp only [Option.bind_some]
    exact one_list _ _ id
end Go.Proofs.YthdfmpocknmleaaGreatDoor
