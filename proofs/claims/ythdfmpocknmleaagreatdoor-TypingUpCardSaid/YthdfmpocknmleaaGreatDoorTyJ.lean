/- What package schema tells of fields, kinds, lives and rules, as plain functions. No condition. -/
import Derived.Test.YthdfmpocknmleaaGreatDoorTyI
namespace Go.Proofs.YthdfmpocknmleaaGreatDoor
open Go.Sim

theorem sum_take1 (l : List Int) {k : Nat} (h : k < l.length) : (l.take (k + 1)).sum = (l.take k).sum + l[k] := by
  rw [List.take_succ_eq_append_getElem h, List.sum_append]; simp
/-- Words and weights are right. -/
def pickS (ws : List Str) (gs : List Int) : Bool := (gs.all fun g => inW g 0 1048576) && (((inW (ws.length : Int) 1 12 && ((ws.length : Int) == (gs.length : Int))) && decide (gs.sum > 0)) && ws.all nameS)
theorem isPick_is {ws : List Str} {gs : List Int} (hw : ws.length ≤ 1000000) (hg : gs.length ≤ 1000000) : fschema_isPick ws gs = some (pickS ws gs) := by
  have key : Ok (fschema_isPick ws gs) (fun r => r = pickS ws gs) := by
    unfold fschema_isPick
    refine Ok.bind (P := fun e : Int ⊕ Bool => match e with | .inl s => (gs.all fun g => inW g 0 1048576) = true ∧ s = gs.sum | .inr p => p = false ∧ (gs.all fun g => inW g 0 1048576) = false)
      (Ok.loop (fun m s => 0 ≤ s.1 ∧ s.1 + m = gs.length ∧ ((gs.take s.1.toNat).all fun g => inW g 0 1048576) = true ∧ s.2 = (gs.take s.1.toNat).sum ∧ 0 ≤ s.2 ∧ s.2 ≤ s.1 * 1048576) gs.length ⟨Int.le_refl _, by dsimp only; omega, by simp, by simp, by simp, by simp⟩ fun m s hs => ?_) fun e he => ?_
    · obtain ⟨i, t⟩ := s
      obtain ⟨h1, h2, h3, h4, h5, h6⟩ := hs
      dsimp only at h1 h2 h3 h4 h5 h6
      obtain ⟨k, rfl⟩ := Int.eq_ofNat_of_zero_le h1
      simp only [Int.toNat_natCast] at h3 h4
      refine Ok.ite (fun hk => ?_) (fun hk => ?_)
      · have hk' : k < gs.length := by simpa using hk
        dsimp only
        rw [idx_lt hk']
        simp only [Option.bind_some]
        show Ok ((some (inW gs[k] 0 1048576)).bind _) _
        simp only [Option.bind_some]
        refine Ok.ite (fun hn => Ok.mk ⟨rfl, ?_⟩) (fun hy => Ok.mk ⟨m - 1, by omega, ?_⟩)
        · rw [List.all_eq_false]
          exact ⟨_, List.getElem_mem hk', by simpa using hn⟩
        · have hy' : inW gs[k] 0 1048576 = true := by simpa using hy
          have hb := inW_le hy'
          dsimp only
          rw [w64_succ hk' (by omega), w64 (n := t + gs[k]) (by omega) (by omega)]
          refine ⟨by omega, by omega, ?_, ?_, by omega, by omega⟩
          · rw [Int.toNat_natCast, List.take_succ_eq_append_getElem hk', List.all_append, h3]; simp [hy']
          · rw [Int.toNat_natCast, sum_take1 gs hk', h4]
      · have hk' : ¬ k < gs.length := by simpa using hk
        rw [List.take_of_length_le (by omega)] at h3 h4
        exact Ok.mk ⟨h3, h4⟩
    · cases e with
      | inr p => obtain ⟨rfl, hp⟩ := he; refine Ok.mk ?_; unfold pickS; rw [hp]; rfl
      | inl s =>
        obtain ⟨hp, rfl⟩ := he
        dsimp only
        show Ok ((some (inW (ws.length : Int) 1 12)).bind _) _
        simp only [Option.bind_some]
        rw [allstring (p := nameS) hw (fun x _ => isName_is x)]
        unfold pickS
        rw [hp, Bool.true_and]
        cases (inW (ws.length : Int) 1 12 && ((ws.length : Int) == (gs.length : Int))) && decide (gs.sum > 0) with
        | false => exact Ok.mk rfl
        | true => exact Ok.mk rfl
  obtain ⟨r, hr, rfl⟩ := key
  exact hr

/-- A field with what its kind uses alone. -/
def onlyS (f : Sapi_Field) : Sapi_Field :=
  if f.Kind = 0 then ⟨f.Name, [], [], f.Kind, f.Lo, 0, [], []⟩
  else if f.Kind = 1 ∨ f.Kind = 4 ∨ f.Kind = 5 then ⟨f.Name, f.Of, [], f.Kind, f.Lo, f.Hi, [], []⟩
  else if f.Kind = 2 then ⟨f.Name, [], [], f.Kind, f.Lo, f.Hi, [], []⟩
  else if f.Kind = 3 then ⟨f.Name, [], [], f.Kind, 0, 0, f.Words, f.Weights⟩
  else if f.Kind = 6 then ⟨f.Name, f.Of, [], f.Kind, 0, 0, [], []⟩
  else if f.Kind = 7 then ⟨f.Name, f.Of, f.Up, f.Kind, f.Lo, f.Hi, [], []⟩
  else if f.Kind = 8 then ⟨f.Name, f.Of, f.Up, f.Kind, 0, 0, [], []⟩
  else ⟨f.Name, [], [], f.Kind, 0, 0, [], []⟩
theorem only_is (f : Sapi_Field) : fschema_only f = some (onlyS f) := by
  obtain ⟨n, o, u, k, lo, hi, w, g⟩ := f
  unfold fschema_only onlyS
  by_cases h0 : k = 0
  · subst h0; rfl
  by_cases h1 : k = 1
  · subst h1; rfl
  by_cases h4 : k = 4
  · subst h4; rfl
  by_cases h5 : k = 5
  · subst h5; rfl
  by_cases h2 : k = 2
  · subst h2; rfl
  by_cases h3 : k = 3
  · subst h3; rfl
  by_cases h6 : k = 6
  · subst h6; rfl
  by_cases h7 : k = 7
  · subst h7; rfl
  by_cases h8 : k = 8
  · subst h8; rfl
  simp [h0, h1, h2, h3, h4, h5, h6, h7, h8]
/-- Two fields are equal. -/
def sameS (a b : Sapi_Field) : Bool := (((((((a.Name == b.Name) && (a.Of == b.Of)) && (a.Up == b.Up)) && (a.Kind == b.Kind)) && (a.Lo == b.Lo)) && (a.Hi == b.Hi)) && decide (a.Words = b.Words)) && decide (a.Weights = b.Weights)
theorem sameField_is {a b : Sapi_Field} (h1 : a.Words.length ≤ 1000000) (h2 : a.Weights.length ≤ 1000000) : fschema_sameField a b = some (sameS a b) := by
  unfold fschema_sameField sameS
  rw [eqString h1, eqInt h2]
  cases ((((((a.Name == b.Name) && (a.Of == b.Of)) && (a.Up == b.Up)) && (a.Kind == b.Kind)) && (a.Lo == b.Lo)) && (a.Hi == b.Hi)) with
  | false => rfl
  | true =>
    simp only [Sim.opt, Bool.true_and, beq_self_eq_true, if_true, Option.bind_some]
    cases decide (a.Words = b.Words) <;> rfl
def partS (f : Sapi_Field) : Bool :=
  if f.Kind = 0 then inW f.Lo (-1048576) 1048576
  else if f.Kind = 1 then nameS f.Of && spanS f.Lo f.Hi 0 65536
  else if f.Kind = 2 then spanS f.Lo f.Hi (-1048576) 1048576
  else if f.Kind = 3 then pickS f.Words f.Weights
  else if f.Kind = 4 then ((f.Of == []) || nameS f.Of) && spanS f.Lo f.Hi (-1048576) 1048576
  else if f.Kind = 5 then nameS f.Of && spanS f.Lo f.Hi 0 32
  else if f.Kind = 6 then nameS f.Of
  else if f.Kind = 7 then (nameS f.Of && nameS f.Up) && spanS f.Lo f.Hi 0 1048576
  else if f.Kind = 8 then nameS f.Of && nameS f.Up
  else false
/-- A field is valid. -/
def fieldS (f : Sapi_Field) : Bool := (nameS f.Name && sameS f (onlyS f)) && partS f
theorem isField_is {f : Sapi_Field} (h1 : f.Words.length ≤ 1000000) (h2 : f.Weights.length ≤ 1000000) : fschema_isField f = some (fieldS f) := by
  unfold fschema_isField fieldS
  rw [isName_is, only_is]
  simp only [Option.bind_some]
  cases nameS f.Name with
  | false => rfl
  | true =>
    simp only [Sim.opt, Bool.not_true, beq_self_eq_true, if_true, Option.bind_some]
    rw [sameField_is h1 h2]
    simp only [Option.bind_some]
    cases sameS f (onlyS f) with
    | false => rfl
    | true =>
      simp only [isName_is, isPick_is h1 h2, Bool.true_and, Bool.not_true, Bool.or_self]
      rw [if_neg (by decide)]
      unfold partS
      by_cases c0 : f.Kind = 0
      · rw [if_pos (by simp [c0]), if_pos c0]; rfl
      rw [if_neg (by simpa using c0), if_neg c0]
      by_cases c1 : f.Kind = 1
      · rw [if_pos (by simp [c1]), if_pos c1]; cases nameS f.Of <;> rfl
      rw [if_neg (by simpa using c1), if_neg c1]
      by_cases c2 : f.Kind = 2
      · rw [if_pos (by simp [c2]), if_pos c2]; rfl
      rw [if_neg (by simpa using c2), if_neg c2]
      by_cases c3 : f.Kind = 3
      · rw [if_pos (by simp [c3]), if_pos c3]; rfl
      rw [if_neg (by simpa using c3), if_neg c3]
      by_cases c4 : f.Kind = 4
      · rw [if_pos (by simp [c4]), if_pos c4]; cases (f.Of == []) <;> cases nameS f.Of <;> rfl
      rw [if_neg (by simpa using c4), if_neg c4]
      by_cases c5 : f.Kind = 5
      · rw [if_pos (by simp [c5]), if_pos c5]; cases nameS f.Of <;> rfl
      rw [if_neg (by simpa using c5), if_neg c5]
      by_cases c6 : f.Kind = 6
      · rw [if_pos (by simp [c6]), if_pos c6]; rfl
      rw [if_neg (by simpa using c6), if_neg c6]
      by_cases c7 : f.Kind = 7
      · rw [if_pos (by simp [c7]), if_pos c7]; cases nameS f.Of <;> cases nameS f.Up <;> rfl
      rw [if_neg (by simpa using c7), if_neg c7]
      by_cases c8 : f.Kind = 8
      · rw [if_pos (by simp [c8]), if_pos c8]; cases nameS f.Of <;> rfl
      rw [if_neg (by simpa using c8), if_neg c8]

/-- A kind, a life, a rule is valid. -/
def kindS (k : Sapi_Kind) : Bool := ((nameS k.Name && spanS k.Lo k.Hi 0 65536) && decide ((k.Fields.length : Int) ≤ 10)) && k.Fields.all fieldS
def FieldsFew (l : List Sapi_Field) : Prop := l.length ≤ 1000000 ∧ ∀ f ∈ l, f.Words.length ≤ 1000000 ∧ f.Weights.length ≤ 1000000
theorem isKind_is {k : Sapi_Kind} (h : FieldsFew k.Fields) : fschema_isKind k = some (kindS k) := by
  unfold fschema_isKind kindS
  rw [isName_is, allField (p := fieldS) h.1 (fun f hf => isField_is (h.2 f hf).1 (h.2 f hf).2)]
  simp only [Option.bind_some]
  cases nameS k.Name with
  | false => rfl
  | true =>
    show (opt true (some (spanS k.Lo k.Hi 0 65536)) default).bind _ = _
    simp only [Sim.opt, Bool.true_and, if_true, Option.bind_some]
    cases spanS k.Lo k.Hi 0 65536 with
    | false => rfl
    | true =>
      cases hd : decide ((k.Fields.length : Int) ≤ 10) with
      | false => rfl
      | true => rfl
def moveS (n : Int) (m : A2_Int) : Bool := inW m.a0 0 (n - 1) && inW m.a1 0 (n - 1)
def lifeS (x : Sapi_Life) : Bool := (((nameS x.Name && inW (x.States.length : Int) 1 12) && x.States.all nameS) && decide ((x.Moves.length : Int) ≤ 32)) && x.Moves.all (moveS (x.States.length : Int))
theorem isLife_is {x : Sapi_Life} (h1 : x.States.length ≤ 1000000) (h2 : x.Moves.length ≤ 1000000) : fschema_isLife x = some (lifeS x) := by
  have hm : ∀ m ∈ x.Moves, fschema_isLifeq1 m (x.States.length : Int) = some (moveS (x.States.length : Int) m) := fun m _ => by
    unfold fschema_isLifeq1 moveS
    rw [w64 (by omega) (by omega)]
    show (some (inW m.a0 0 ((x.States.length : Int) - 1))).bind _ = _
    simp only [Option.bind_some]
    cases inW m.a0 0 ((x.States.length : Int) - 1) <;> rfl
  unfold fschema_isLife lifeS
  rw [isName_is, allstring (p := nameS) h1 (fun s _ => isName_is s), allTwoint (p := moveS (x.States.length : Int)) h2 hm]
  simp only [Option.bind_some]
  cases nameS x.Name with
  | false => rfl
  | true =>
    show (opt true (some (inW (x.States.length : Int) 1 12)) default).bind _ = _
    simp only [Sim.opt, Bool.true_and, if_true, Option.bind_some]
    cases inW (x.States.length : Int) 1 12 with
    | false => rfl
    | true =>
      simp only [Bool.true_and, beq_self_eq_true, if_true, Option.bind_some]
      cases x.States.all nameS with
      | false => rfl
      | true => cases decide ((x.Moves.length : Int) ≤ 32) <;> rfl
def ruleS (r : Sapi_Rule) : Bool := ((((nameS r.Name && nameS r.Kind) && ((r.A == []) || nameS r.A)) && ((r.B == []) || nameS r.B)) && (r.A ++ r.B != [])) && inW r.N (-1048576) 1048576
theorem nameS_len {s : Str} (h : nameS s = true) : s.length ≤ 12 := by
  unfold nameS at h
  simp only [Bool.and_eq_true] at h
  have := (inW_le h.1).2
  omega
theorem isRule_is (r : Sapi_Rule) : fschema_isRule r = some (ruleS r) := by
  have len : ∀ s : Str, ((s == []) || nameS s) = true → s.length ≤ 12 := fun s h => by
    rcases Bool.or_eq_true _ _ |>.mp h with h | h
    · have : s = [] := by simpa using h
      subst this; simp
    · exact nameS_len h
  unfold fschema_isRule ruleS
  simp only [isName_is]
  simp only [Option.bind_some]
  cases nameS r.Name with
  | false => rfl
  | true =>
    simp only [Sim.opt, Bool.true_and, beq_self_eq_true, if_true, Option.bind_some]
    cases nameS r.Kind with
    | false => rfl
    | true =>
      simp only [Bool.true_and, beq_self_eq_true, Bool.true_and]
      have la := len r.A
      have lb := len r.B
      cases ha : (r.A == []) <;> cases hna : nameS r.A <;> cases hb : (r.B == []) <;> cases hnb : nameS r.B <;> first
        | rfl
        | (rw [ha, hna] at la; rw [hb, hnb] at lb
           have e : cat (r.A.length + r.B.length) = some () := if_pos (by have := la rfl; have := lb rfl; omega)
           simp only [e, Bool.false_or, Bool.or_false, Bool.true_or, Bool.or_true, Bool.and_true, Bool.true_and, Bool.and_self, beq_self_eq_true, if_true, Option.bind_some]
           cases (r.A ++ r.B != []) <;> rfl)

end Go.Proofs.YthdfmpocknmleaaGreatDoor
