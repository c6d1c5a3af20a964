/- What package schema tells of names, fields, kinds, lives and rules, as plain functions: the parts. No condition. -/
import Derived.Test.YthdfmpocknmleaaGreatDoorTyG
namespace Go.Proofs.YthdfmpocknmleaaGreatDoor
open Go.Sim

theorem firstIdx_any {α : Type} (s : List α) (p : α → Bool) : decide (firstIdx s p ≥ 0) = s.any p := by
  unfold firstIdx
  cases h : s.findIdx? p with
  | none =>
    have := List.findIdx?_eq_none_iff.1 h
    rw [Eq.comm, List.any_eq_false.2 (fun x hx => by simp [this x hx])]
    rfl
  | some k =>
    obtain ⟨hk, hp, _⟩ := List.findIdx?_eq_some_iff_getElem.1 h
    rw [Eq.comm, List.any_eq_true.2 ⟨_, List.getElem_mem hk, hp⟩, Eq.comm]
    exact decide_eq_true (Int.natCast_nonneg k)
theorem any_not {α : Type} (s : List α) (p : α → Bool) : (!s.any fun x => !p x) = s.all p := by
  induction s with
  | nil => rfl
  | cons a s ih => simp only [List.any_cons, List.all_cons, Bool.not_or, Bool.not_not, ih]

theorem indexLife {s : List Sapi_Life} {f : Sapi_Life → Option Bool} {p : Sapi_Life → Bool} (hs : s.length ≤ 1000000) (hf : ∀ x ∈ s, f x = some (p x)) : fslices_IndexFunc_Life s f = some (firstIdx s p) := by
  unfold fslices_IndexFunc_Life
  rw [tailrec_first s p (fun k hk => ?_) ?_]
  · unfold firstIdx; cases s.findIdx? p <;> rfl
  · rw [if_neg (by simp)]
  · rw [if_pos (by simpa using hk), idx_lt hk]
    show (f s[k]).bind _ = _
    rw [hf _ (List.getElem_mem hk), w64_succ hk (by omega)]; rfl
theorem indexRule {s : List Sapi_Rule} {f : Sapi_Rule → Option Bool} {p : Sapi_Rule → Bool} (hs : s.length ≤ 1000000) (hf : ∀ x ∈ s, f x = some (p x)) : fslices_IndexFunc_Rule s f = some (firstIdx s p) := by
  unfold fslices_IndexFunc_Rule
  rw [tailrec_first s p (fun k hk => ?_) ?_]
  · unfold firstIdx; cases s.findIdx? p <;> rfl
  · rw [if_neg (by simp)]
  · rw [if_pos (by simpa using hk), idx_lt hk]
    show (f s[k]).bind _ = _
    rw [hf _ (List.getElem_mem hk), w64_succ hk (by omega)]; rfl
theorem indexbyte {s : List Int} {f : Int → Option Bool} {p : Int → Bool} (hs : s.length ≤ 1000000) (hf : ∀ x ∈ s, f x = some (p x)) : fslices_IndexFunc_byte s f = some (firstIdx s p) := by
  unfold fslices_IndexFunc_byte
  rw [tailrec_first s p (fun k hk => ?_) ?_]
  · unfold firstIdx; cases s.findIdx? p <;> rfl
  · rw [if_neg (by simp)]
  · rw [if_pos (by simpa using hk), idx_lt hk]
    show (f s[k]).bind _ = _
    rw [hf _ (List.getElem_mem hk), w64_succ hk (by omega)]; rfl
theorem indexstring {s : List Str} {f : Str → Option Bool} {p : Str → Bool} (hs : s.length ≤ 1000000) (hf : ∀ x ∈ s, f x = some (p x)) : fslices_IndexFunc_string s f = some (firstIdx s p) := by
  unfold fslices_IndexFunc_string
  rw [tailrec_first s p (fun k hk => ?_) ?_]
  · unfold firstIdx; cases s.findIdx? p <;> rfl
  · rw [if_neg (by simp)]
  · rw [if_pos (by simpa using hk), idx_lt hk]
    show (f s[k]).bind _ = _
    rw [hf _ (List.getElem_mem hk), w64_succ hk (by omega)]; rfl
theorem indexTwoint {s : List A2_Int} {f : A2_Int → Option Bool} {p : A2_Int → Bool} (hs : s.length ≤ 1000000) (hf : ∀ x ∈ s, f x = some (p x)) : fslices_IndexFunc_Twoint s f = some (firstIdx s p) := by
  unfold fslices_IndexFunc_Twoint
  rw [tailrec_first s p (fun k hk => ?_) ?_]
  · unfold firstIdx; cases s.findIdx? p <;> rfl
  · rw [if_neg (by simp)]
  · rw [if_pos (by simpa using hk), idx_lt hk]
    show (f s[k]).bind _ = _
    rw [hf _ (List.getElem_mem hk), w64_succ hk (by omega)]; rfl
theorem containsKind {s : List Sapi_Kind} {f : Sapi_Kind → Option Bool} {p : Sapi_Kind → Bool} (hs : s.length ≤ 1000000) (hf : ∀ x ∈ s, f x = some (p x)) : fslices_ContainsFunc_Kind s f = some (s.any p) := by
  unfold fslices_ContainsFunc_Kind
  rw [indexKind hs hf, ← firstIdx_any]; rfl
theorem allKind {s : List Sapi_Kind} {f : Sapi_Kind → Option Bool} {p : Sapi_Kind → Bool} (hs : s.length ≤ 1000000) (hf : ∀ x ∈ s, f x = some (p x)) : fschema_all_Kind s f = some (s.all p) := by
  unfold fschema_all_Kind
  rw [containsKind (p := fun x => !p x) hs (fun x hx => by show (f x).bind _ = _; rw [hf x hx]; rfl), ← any_not]; rfl
theorem containsField {s : List Sapi_Field} {f : Sapi_Field → Option Bool} {p : Sapi_Field → Bool} (hs : s.length ≤ 1000000) (hf : ∀ x ∈ s, f x = some (p x)) : fslices_ContainsFunc_Field s f = some (s.any p) := by
  unfold fslices_ContainsFunc_Field
  rw [indexField hs hf, ← firstIdx_any]; rfl
theorem allField {s : List Sapi_Field} {f : Sapi_Field → Option Bool} {p : Sapi_Field → Bool} (hs : s.length ≤ 1000000) (hf : ∀ x ∈ s, f x = some (p x)) : fschema_all_Field s f = some (s.all p) := by
  unfold fschema_all_Field
  rw [containsField (p := fun x => !p x) hs (fun x hx => by show (f x).bind _ = _; rw [hf x hx]; rfl), ← any_not]; rfl
theorem containsLife {s : List Sapi_Life} {f : Sapi_Life → Option Bool} {p : Sapi_Life → Bool} (hs : s.length ≤ 1000000) (hf : ∀ x ∈ s, f x = some (p x)) : fslices_ContainsFunc_Life s f = some (s.any p) := by
  unfold fslices_ContainsFunc_Life
  rw [indexLife hs hf, ← firstIdx_any]; rfl
theorem allLife {s : List Sapi_Life} {f : Sapi_Life → Option Bool} {p : Sapi_Life → Bool} (hs : s.length ≤ 1000000) (hf : ∀ x ∈ s, f x = some (p x)) : fschema_all_Life s f = some (s.all p) := by
  unfold fschema_all_Life
  rw [containsLife (p := fun x => !p x) hs (fun x hx => by show (f x).bind _ = _; rw [hf x hx]; rfl), ← any_not]; rfl
theorem containsRule {s : List Sapi_Rule} {f : Sapi_Rule → Option Bool} {p : Sapi_Rule → Bool} (hs : s.length ≤ 1000000) (hf : ∀ x ∈ s, f x = some (p x)) : fslices_ContainsFunc_Rule s f = some (s.any p) := by
  unfold fslices_ContainsFunc_Rule
  rw [indexRule hs hf, ← firstIdx_any]; rfl
theorem allRule {s : List Sapi_Rule} {f : Sapi_Rule → Option Bool} {p : Sapi_Rule → Bool} (hs : s.length ≤ 1000000) (hf : ∀ x ∈ s, f x = some (p x)) : fschema_all_Rule s f = some (s.all p) := by
  unfold fschema_all_Rule
  rw [containsRule (p := fun x => !p x) hs (fun x hx => by show (f x).bind _ = _; rw [hf x hx]; rfl), ← any_not]; rfl
theorem containsbyte {s : List Int} {f : Int → Option Bool} {p : Int → Bool} (hs : s.length ≤ 1000000) (hf : ∀ x ∈ s, f x = some (p x)) : fslices_ContainsFunc_byte s f = some (s.any p) := by
  unfold fslices_ContainsFunc_byte
  rw [indexbyte hs hf, ← firstIdx_any]; rfl
theorem containsstring {s : List Str} {f : Str → Option Bool} {p : Str → Bool} (hs : s.length ≤ 1000000) (hf : ∀ x ∈ s, f x = some (p x)) : fslices_ContainsFunc_string s f = some (s.any p) := by
  unfold fslices_ContainsFunc_string
  rw [indexstring hs hf, ← firstIdx_any]; rfl
theorem allstring {s : List Str} {f : Str → Option Bool} {p : Str → Bool} (hs : s.length ≤ 1000000) (hf : ∀ x ∈ s, f x = some (p x)) : fschema_all_string s f = some (s.all p) := by
  unfold fschema_all_string
  rw [containsstring (p := fun x => !p x) hs (fun x hx => by show (f x).bind _ = _; rw [hf x hx]; rfl), ← any_not]; rfl
theorem containsTwoint {s : List A2_Int} {f : A2_Int → Option Bool} {p : A2_Int → Bool} (hs : s.length ≤ 1000000) (hf : ∀ x ∈ s, f x = some (p x)) : fslices_ContainsFunc_Twoint s f = some (s.any p) := by
  unfold fslices_ContainsFunc_Twoint
  rw [indexTwoint hs hf, ← firstIdx_any]; rfl
theorem allTwoint {s : List A2_Int} {f : A2_Int → Option Bool} {p : A2_Int → Bool} (hs : s.length ≤ 1000000) (hf : ∀ x ∈ s, f x = some (p x)) : fschema_all_Twoint s f = some (s.all p) := by
  unfold fschema_all_Twoint
  rw [containsTwoint (p := fun x => !p x) hs (fun x hx => by show (f x).bind _ = _; rw [hf x hx]; rfl), ← any_not]; rfl

def inW (n a b : Int) : Bool := decide (n ≥ a) && decide (n ≤ b)
theorem inW_le {n a b : Int} (h : inW n a b = true) : a ≤ n ∧ n ≤ b := by simpa [inW] using h
def letterS (c : Int) : Bool := inW c 97 122
def digitS (c : Int) : Bool := inW c 48 57
def spanS (lo hi a b : Int) : Bool := (decide (lo ≥ a) && decide (lo ≤ hi)) && decide (hi ≤ b)
/-- A name. -/
def nameS (s : Str) : Bool := inW (s.length : Int) 1 12 && (letterS ((s.headD 0).toNat : Int) && (bytesOf s).all fun c => letterS c || digitS c)
theorem isName_is (s : Str) : fschema_isName s = some (nameS s) := by
  unfold fschema_isName nameS
  cases s with
  | nil => rfl
  | cons c s =>
    show (some (inW ((c :: s).length : Int) 1 12)).bind _ = _
    simp only [Option.bind_some]
    cases h : inW ((c :: s).length : Int) 1 12 with
    | false => rfl
    | true =>
      have hl := (inW_le h).2
      rw [show idx (c :: s) (0 : Int) = some c from rfl]
      simp only [Sim.opt, Bool.not_true, beq_self_eq_true, if_true, Option.bind_some]
      rw [show fschema_isLetter (c.toNat : Int) = some (letterS (c.toNat : Int)) from rfl]
      simp only [Option.bind_some]
      cases hc : letterS (c.toNat : Int) with
      | false => simp [hc]
      | true =>
        rw [if_neg (by decide), containsbyte (p := fun c => !(letterS c || digitS c)) (by simp only [bytesOf, List.length_map]; omega) (fun x _ => ?_)]
        · simp only [Option.bind_some]
          rw [any_not]
          simp [hc]
        · show (some (letterS x)).bind _ = _
          simp only [Option.bind_some]
          cases h1 : letterS x with
          | true => rfl
          | false => show some (true && !digitS x) = _; rfl

theorem eqString {a b : List Str} (ha : a.length ≤ 1000000) : fslices_Equal_string a b = some (decide (a = b)) := by
  unfold fslices_Equal_string
  by_cases hl : a.length = b.length
  · rw [if_neg (by simp [hl])]
    have : Ok ((tailrec (fun (s7 : Int) => ((if (decide (s7 < (a.length : Int))) = true then (idx a s7).bind fun t18 => (idx b s7).bind fun t22 => (if (t18 != t22) = true then (some (.inr (.inr false))) else (some (.inl (IntKind.i64.wrap (s7 + (1:Int)))))) else (some (.inr (.inl ())))) : Option ((Int) ⊕ ((Unit) ⊕ (Bool))))) (0:Int)).bind fun (e8 : (Unit) ⊕ (Bool)) => (match e8 with | .inl _ => (some true) | .inr p26 => (some p26))) (fun r => r = decide (a = b)) := by
      refine Ok.bind (P := fun e : Unit ⊕ Bool => (match e with | .inl _ => true | .inr p => p) = decide (a = b)) (Ok.loop (fun m s => 0 ≤ s ∧ s + m = a.length ∧ a.take s.toNat = b.take s.toNat) a.length ⟨Int.le_refl _, by omega, by simp⟩ fun m s hs => ?_) fun e he => by cases e <;> exact Ok.mk he
      obtain ⟨h1, h2, h3⟩ := hs
      obtain ⟨k, rfl⟩ := Int.eq_ofNat_of_zero_le h1
      simp only [Int.toNat_natCast] at h3
      refine Ok.ite (fun hk => ?_) (fun hk => ?_)
      · have hk' : k < a.length := by simpa using hk
        rw [idx_lt hk', idx_lt (by omega)]
        simp only [Option.bind_some]
        refine Ok.ite (fun hne => Ok.mk ?_) (fun heq => Ok.mk ⟨m - 1, by omega, ?_⟩)
        · show false = _
          rw [Eq.comm, decide_eq_false_iff_not]
          rintro rfl
          simp at hne
        · have heq' : a[k] = b[k] := by simpa using heq
          rw [w64_succ hk' (by omega)]
          refine ⟨by omega, by omega, ?_⟩
          rw [Int.toNat_natCast, List.take_succ_eq_append_getElem hk', List.take_succ_eq_append_getElem (by omega), h3, heq']
      · have hk' : ¬ k < a.length := by simpa using hk
        refine Ok.mk ?_
        show true = _
        rw [List.take_of_length_le (by omega), List.take_of_length_le (by omega)] at h3
        simp [h3]
    obtain ⟨r, hr, rfl⟩ := this
    exact hr
  · rw [if_pos (by simp; omega)]
    have : a ≠ b := fun h => hl (by rw [h])
    simp [this]
theorem eqInt {a b : List Int} (ha : a.length ≤ 1000000) : fslices_Equal_int a b = some (decide (a = b)) := by
  unfold fslices_Equal_int
  by_cases hl : a.length = b.length
  · rw [if_neg (by simp [hl])]
    have : Ok ((tailrec (fun (s7 : Int) => ((if (decide (s7 < (a.length : Int))) = true then (idx a s7).bind fun t18 => (idx b s7).bind fun t22 => (if (t18 != t22) = true then (some (.inr (.inr false))) else (some (.inl (IntKind.i64.wrap (s7 + (1:Int)))))) else (some (.inr (.inl ())))) : Option ((Int) ⊕ ((Unit) ⊕ (Bool))))) (0:Int)).bind fun (e8 : (Unit) ⊕ (Bool)) => (match e8 with | .inl _ => (some true) | .inr p26 => (some p26))) (fun r => r = decide (a = b)) := by
      refine Ok.bind (P := fun e : Unit ⊕ Bool => (match e with | .inl _ => true | .inr p => p) = decide (a = b)) (Ok.loop (fun m s => 0 ≤ s ∧ s + m = a.length ∧ a.take s.toNat = b.take s.toNat) a.length ⟨Int.le_refl _, by omega, by simp⟩ fun m s hs => ?_) fun e he => by cases e <;> exact Ok.mk he
      obtain ⟨h1, h2, h3⟩ := hs
      obtain ⟨k, rfl⟩ := Int.eq_ofNat_of_zero_le h1
      simp only [Int.toNat_natCast] at h3
      refine Ok.ite (fun hk => ?_) (fun hk => ?_)
      · have hk' : k < a.length := by simpa using hk
        rw [idx_lt hk', idx_lt (by omega)]
        simp only [Option.bind_some]
        refine Ok.ite (fun hne => Ok.mk ?_) (fun heq => Ok.mk ⟨m - 1, by omega, ?_⟩)
        · show false = _
          rw [Eq.comm, decide_eq_false_iff_not]
          rintro rfl
          simp at hne
        · have heq' : a[k] = b[k] := by simpa using heq
          rw [w64_succ hk' (by omega)]
          refine ⟨by omega, by omega, ?_⟩
          rw [Int.toNat_natCast, List.take_succ_eq_append_getElem hk', List.take_succ_eq_append_getElem (by omega), h3, heq']
      · have hk' : ¬ k < a.length := by simpa using hk
        refine Ok.mk ?_
        show true = _
        rw [List.take_of_length_le (by omega), List.take_of_length_le (by omega)] at h3
        simp [h3]
    obtain ⟨r, hr, rfl⟩ := this
    exact hr
  · rw [if_pos (by simp; omega)]
    have : a ≠ b := fun h => hl (by rw [h])
    simp [this]

end Go.Proofs.YthdfmpocknmleaaGreatDoor
