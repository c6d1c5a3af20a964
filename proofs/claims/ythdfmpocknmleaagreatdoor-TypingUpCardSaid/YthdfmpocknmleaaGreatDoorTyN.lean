/- typing.Check: the error of a field, of a kind, of a rule, as plain functions. No condition. -/
import Derived.Test.YthdfmpocknmleaaGreatDoorTyM
namespace Go.Proofs.YthdfmpocknmleaaGreatDoor
open Go.Sim

def firstS : List Styping_fault → Int
  | [] => 0
  | f :: r => if f.is = true then f.code else firstS r
theorem first_is {l : List Styping_fault} (hl : l.length ≤ 1000) : ftyping_first l = some (firstS l) := by
  have key : Ok (ftyping_first l) (fun r => r = firstS l) := by
    unfold ftyping_first
    refine Ok.bind (P := fun e : Unit ⊕ Int => (match e with | .inl _ => 0 | .inr r => r) = firstS l) (Ok.loop (fun m s => 0 ≤ s ∧ s + m = l.length ∧ firstS (l.drop s.toNat) = firstS l) l.length ⟨Int.le_refl _, by omega, by simp⟩ fun m s hs => ?_) fun e he => by cases e <;> exact Ok.mk he
    obtain ⟨h1, h2, h3⟩ := hs
    obtain ⟨k, rfl⟩ := Int.eq_ofNat_of_zero_le h1
    rw [Int.toNat_natCast] at h3
    refine Ok.ite (fun hk => ?_) (fun hk => ?_)
    · have hk' : k < l.length := by simpa using hk
      rw [idx_lt hk']
      simp only [Option.bind_some]
      rw [List.drop_eq_getElem_cons hk', firstS] at h3
      refine Ok.ite (fun hi => Ok.mk ?_) (fun hi => Ok.mk ⟨m - 1, by omega, ?_⟩)
      · rw [if_pos hi] at h3; exact h3
      · rw [if_neg (by rw [hi]; decide)] at h3
        rw [w64_succ hk' (by omega)]
        exact ⟨by omega, by omega, by rw [Int.toNat_natCast]; exact h3⟩
    · have hk' : ¬ k < l.length := by simpa using hk
      rw [List.drop_of_length_le (by omega)] at h3
      exact Ok.mk h3
  obtain ⟨r, hr, rfl⟩ := key
  exact hr

/-- The field above to which Of leads. -/
def topS (x : Sapi_Schema) (k j : Int) (f : Sapi_Field) : Sapi_Field × Bool :=
  if upIx x k j < 0 then (zeroField, false)
  else match idx x.Kinds (upIx x k j) with
    | none => (zeroField, false)
    | some q => match field? x (upIx x k j) (fieldIx q f.Of) with | some g => (g, true) | none => (zeroField, false)
def rightS (g : Sapi_Field) : Bool := ((((g.Kind == 2) || (g.Kind == 3)) || (g.Kind == 4)) || (g.Kind == 5)) || (g.Kind == 8)
/-- The error of a field whose name is not there twice. -/
def leadE (x : Sapi_Schema) (q : Sapi_Kind) (k j : Int) (f : Sapi_Field) : Int :=
  if f.Kind = 0 then firstS [⟨decide (j > 0), 13⟩]
  else if f.Kind = 1 then firstS [⟨decide (upIx x k j < 0), 12⟩]
  else if f.Kind = 4 then firstS [⟨(f.Of != []) && (((decide (fieldIx q f.Of < 0)) || (decide (fieldIx q f.Of ≥ j))) || ((match field? x k (fieldIx q f.Of) with | some g => (g, true) | none => (zeroField, false)).1.Kind != 4)), 12⟩]
  else if f.Kind = 5 then firstS [⟨!(x.Lives.any fun l => l.Name == f.Of), 12⟩]
  else if f.Kind = 6 then firstS [⟨decide ((sumIx x k f).1 < 0), 12⟩, ⟨((sumIx x k f).2.length : Int) != 1, 11⟩]
  else if f.Kind = 7 then firstS [⟨decide (upIx x k j < 0), 12⟩, ⟨((!(topS x k j f).2) || ((topS x k j f).1.Kind != 6)) || (kindIx x (topS x k j f).1.Of != k), 13⟩]
  else if f.Kind = 8 then firstS [⟨decide (upIx x k j < 0), 12⟩, ⟨(!(topS x k j f).2) || (!rightS (topS x k j f).1), 13⟩]
  else 0
theorem upIx_lt (x : Sapi_Schema) (k j : Int) (hk : 0 ≤ k) : upIx x k j < k ∧ -1 ≤ upIx x k j := by
  have hr : ∀ g, refIx x k g < k ∧ -1 ≤ refIx x k g := fun g => by
    have := kindIx_lt x g.Of
    unfold refIx; split <;> omega
  unfold upIx
  cases field? x k j with
  | none => exact ⟨by dsimp only; omega, by dsimp only; omega⟩
  | some f =>
    dsimp only
    split
    · split
      · omega
      · split
        · split
          · split
            · exact hr _
            · omega
          · omega
        · omega
    · split
      · exact hr _
      · omega
theorem top_is {x : Sapi_Schema} {k j : Int} {f : Sapi_Field} (hx : Few x) (hk : 0 ≤ k) (hkl : k < x.Kinds.length) : ftyping_spot_top ⟨x, k, j, f⟩ = some (topS x k j f) := by
  unfold ftyping_spot_top topS
  rw [typing_Up_is hx]
  simp only [Option.bind_some]
  by_cases hu : upIx x k j < 0
  · rw [if_pos (by simpa using hu), if_pos hu]; rfl
  · rw [if_neg (by simpa using hu), if_neg hu]
    have h1 := upIx_lt x k j hk
    obtain ⟨q, hq, hqm⟩ := idx_some (l := x.Kinds) (i := upIx x k j) (by omega) (by omega)
    rw [hq]
    simp only [Option.bind_some]
    rw [typing_Field_is (by have := hx.2 q hqm; omega)]
    simp only [Option.bind_some]
    rw [at_is]
    cases field? x (upIx x k j) (fieldIx q f.Of) <;> rfl
theorem lost_is {x : Sapi_Schema} {k j : Int} {f : Sapi_Field} (hx : Few x) : ftyping_spot_lost ⟨x, k, j, f⟩ = some (decide (upIx x k j < 0)) := by
  unfold ftyping_spot_lost
  rw [typing_Up_is hx]; rfl
theorem chk_some {x : Sapi_Schema} {k j : Int} {q : Sapi_Kind} {f : Sapi_Field} (hx : Few x) (hl : x.Lives.length ≤ 1000) (hq : idx x.Kinds k = some q) (hf : field? x k j = some f) (h : (fChecks f.Kind).isSome = true) : callO (SX_check.mk (fChecks f.Kind)).check ⟨x, k, j, f⟩ = some (leadE x q k j f) := by
  obtain ⟨q', hk, hj, hq', hqf, hqm, hkl, hjl⟩ := field_some hf
  rw [hq] at hq'; cases hq'
  have one : ∀ a, ftyping_first [a] = some (firstS [a]) := fun a => first_is (by simp)
  have two : ∀ a b, ftyping_first [a, b] = some (firstS [a, b]) := fun a b => first_is (by simp)
  unfold leadE
  dsimp only
  by_cases c0 : f.Kind = 0
  · rw [if_pos c0, c0]
    show ftyping_checksq1 _ = _
    unfold ftyping_checksq1; rw [one]; rfl
  rw [if_neg c0]
  by_cases c1 : f.Kind = 1
  · rw [if_pos c1, c1]
    show ftyping_checksq2 _ = _
    unfold ftyping_checksq2; rw [lost_is hx]; simp only [Option.bind_some]; rw [one]; rfl
  rw [if_neg c1]
  by_cases c4 : f.Kind = 4
  · rw [if_pos c4, c4]
    show ftyping_checksq3 _ = _
    unfold ftyping_checksq3
    dsimp only
    rw [hq]
    simp only [Option.bind_some]
    rw [typing_Field_is (by have := hx.2 q hqm; omega)]
    simp only [Option.bind_some]
    rw [at_is]
    simp only [Option.bind_some]
    rw [one]; rfl
  rw [if_neg c4]
  by_cases c5 : f.Kind = 5
  · rw [if_pos c5, c5]
    show ftyping_checksq4 _ = _
    unfold ftyping_checksq4
    dsimp only
    rw [containsLife (s := x.Lives) (f := fun x0 => ftyping_checksq4q1 x0 ⟨x, k, j, f⟩) (p := fun l => l.Name == f.Of) (by omega) (fun l _ => rfl)]
    simp only [Option.bind_some]
    rw [one]; rfl
  rw [if_neg c5]
  by_cases c6 : f.Kind = 6
  · rw [if_pos c6]
    show callO (fChecks f.Kind) _ = _
    rw [c6]
    show ftyping_checksq5 _ = _
    unfold ftyping_checksq5
    dsimp only
    rw [shares_is hx hk]
    simp only [Option.bind_some]
    rw [two]; rfl
  rw [if_neg c6]
  by_cases c7 : f.Kind = 7
  · rw [if_pos c7]
    show callO (fChecks f.Kind) _ = _
    rw [c7]
    show ftyping_checksq6 _ = _
    unfold ftyping_checksq6
    rw [top_is hx hk hkl, lost_is hx]
    simp only [Option.bind_some]
    rw [typing_Kind_is (by have := hx.1; omega)]
    cases hc : ((!(topS x k j f).2) || ((topS x k j f).1.Kind != 6)) with
    | true =>
      simp only [Sim.opt, Bool.true_or]
      show (ftyping_first _).bind _ = _
      rw [two]; rfl
    | false =>
      simp only [Sim.opt, beq_self_eq_true, if_true, Option.bind_some]
      rw [two]; rfl
  rw [if_neg c7]
  by_cases c8 : f.Kind = 8
  · rw [if_pos c8]
    show callO (fChecks f.Kind) _ = _
    rw [c8]
    show ftyping_checksq7 _ = _
    unfold ftyping_checksq7
    rw [top_is hx hk hkl, lost_is hx]
    simp only [Option.bind_some]
    rw [two]; rfl
  rw [fChecks, if_neg c0, if_neg c1, if_neg c4, if_neg c5, if_neg c6, if_neg c7, if_neg c8] at h
  cases h
theorem chk_none {x : Sapi_Schema} {k j : Int} {q : Sapi_Kind} {f : Sapi_Field} (h : (fChecks f.Kind).isSome = false) : leadE x q k j f = 0 := by
  unfold leadE
  by_cases c0 : f.Kind = 0
  · rw [c0] at h; cases h
  by_cases c1 : f.Kind = 1
  · rw [c1] at h; cases h
  by_cases c4 : f.Kind = 4
  · rw [c4] at h; cases h
  by_cases c5 : f.Kind = 5
  · rw [c5] at h; cases h
  by_cases c6 : f.Kind = 6
  · rw [c6] at h; cases h
  by_cases c7 : f.Kind = 7
  · rw [c7] at h; cases h
  by_cases c8 : f.Kind = 8
  · rw [c8] at h; cases h
  rw [if_neg c0, if_neg c1, if_neg c4, if_neg c5, if_neg c6, if_neg c7, if_neg c8]

/-- The error of a kind. -/
def kindE (x : Sapi_Schema) (i : Int) (q : Sapi_Kind) : Int := firstS [⟨decide (kindIx x q.Name < i), 7⟩, ⟨((q.Fields.length : Int) == 0) || ((q.Fields.headD zeroField).Kind != 0), 11⟩]
theorem kind_is {x : Sapi_Schema} {i : Int} {q : Sapi_Kind} (hx : Few x) (hq : idx x.Kinds i = some q) : ftyping_kind x i = some (kindE x i q) := by
  unfold ftyping_kind kindE
  rw [hq]
  simp only [Option.bind_some]
  rw [typing_Kind_is (by have := hx.1; omega)]
  simp only [Option.bind_some]
  cases hf : q.Fields with
  | nil =>
    show (ftyping_first _).bind _ = _
    rw [first_is (by simp)]; rfl
  | cons f fs =>
    have e : (((f :: fs).length : Int) == 0) = false := by simp; omega
    rw [e]
    simp only [Sim.opt, beq_self_eq_true, if_true]
    rw [show idx (f :: fs) (0:Int) = some f from rfl]
    simp only [Option.bind_some]
    rw [first_is (by simp)]; rfl

/-- The error of a rule. -/
def ruleAt (x : Sapi_Schema) (k : Int) (n : Str) : Sapi_Field × Bool := match idx x.Kinds k with | none => (zeroField, false) | some q => match field? x k (fieldIx q n) with | some g => (g, true) | none => (zeroField, false)
def missS (x : Sapi_Schema) (k : Int) (n : Str) : Bool := !((n == []) || decide (k < 0)) && !(ruleAt x k n).2
def wrongS (x : Sapi_Schema) (k : Int) (n : Str) : Bool := !((n == []) || decide (k < 0)) && (((ruleAt x k n).1.Kind != 2) && ((ruleAt x k n).1.Kind != 4))
def ruleE (x : Sapi_Schema) (i : Nat) (r : Sapi_Rule) : Int :=
  firstS [⟨(x.Rules.take i).any fun s => s.Name == r.Name, 7⟩, ⟨(decide (kindIx x r.Kind < 0) || missS x (kindIx x r.Kind) r.A) || missS x (kindIx x r.Kind) r.B, 12⟩, ⟨wrongS x (kindIx x r.Kind) r.A || wrongS x (kindIx x r.Kind) r.B, 13⟩, ⟨r.A == r.B, 1⟩]
theorem rule_step {β : Type} {x : Sapi_Schema} {k : Int} {n : Str} {a b : Bool} (hx : Few x) (hk : k < x.Kinds.length) (g : Bool × Bool → β) :
    (if ((n == ([] : Str)) || (decide (k < 0))) = true then some (g (a, b)) else (idx x.Kinds k).bind fun t53 => (ftyping_Field t53 n).bind fun t56 => (ftyping_at x k t56).bind fun t57 => some (g ((a || (!t57.2)), (b || ((t57.1.Kind != 2) && (t57.1.Kind != 4)))))) = some (g (a || missS x k n, b || wrongS x k n)) := by
  unfold missS wrongS
  cases hc : ((n == ([] : Str)) || (decide (k < 0))) with
  | true => rw [if_pos rfl]; simp
  | false =>
    rw [if_neg (by decide)]
    simp only [Bool.or_eq_false_iff, decide_eq_false_iff_not] at hc
    obtain ⟨q, hq, hqm⟩ := idx_some (l := x.Kinds) (i := k) (by omega) hk
    unfold ruleAt
    rw [hq]
    simp only [Option.bind_some]
    rw [typing_Field_is (by have := hx.2 q hqm; omega)]
    simp only [Option.bind_some]
    rw [at_is]
    cases field? x k (fieldIx q n) <;> simp

end Go.Proofs.YthdfmpocknmleaaGreatDoor
