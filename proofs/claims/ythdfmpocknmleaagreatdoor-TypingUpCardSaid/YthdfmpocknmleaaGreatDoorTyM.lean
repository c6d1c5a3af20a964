/- The source of a valid schema, and schema.Valid, as plain functions. No condition. -/
import Derived.Test.YthdfmpocknmleaaGreatDoorTyL
namespace Go.Proofs.YthdfmpocknmleaaGreatDoor
open Go.Sim

/-- A loop that appends. -/
theorem app_loop {α : Type} (l : List α) (g : α → Str) (B : Nat) (hB : ∀ a ∈ l, (g a).length ≤ B) (a0 : Str) {body : Int × Str → Option ((Int × Str) ⊕ Str)}
    (hs : ∀ k (h : k < l.length) acc, acc.length ≤ a0.length + k * B → body ((k : Int), acc) = some (.inl (((k + 1 : Nat) : Int), acc ++ g l[k]))) (he : ∀ acc, body ((l.length : Int), acc) = some (.inr acc)) :
    tailrec body ((0 : Int), a0) = some (a0 ++ l.flatMap g) := by
  have hlen : ∀ n, n ≤ l.length → ((l.take n).flatMap g).length ≤ n * B := fun n => by
    induction n with
    | zero => intro _; simp
    | succ n ih =>
      intro hn
      rw [List.take_succ_eq_append_getElem (by omega), List.flatMap_append, List.length_append, Nat.succ_mul]
      have h1 := ih (by omega)
      have h2 := hB _ (List.getElem_mem (show n < l.length by omega))
      simp only [List.flatMap_cons, List.flatMap_nil, List.append_nil]
      omega
  have h := tailrec_for (body := body) l.length (fun n => ((n : Int), a0 ++ (l.take n).flatMap g)) (a0 ++ l.flatMap g) (fun k hk => ?_) ?_
  · simpa using h
  · rw [hs k hk _ (by rw [List.length_append]; have := hlen k (by omega); omega), List.take_succ_eq_append_getElem hk, List.flatMap_append]
    simp
  · rw [he]; simp

def kindSrc (k : Sapi_Kind) : Str := lineS [107, 105, 110, 100] [.str k.Name, .int k.Lo, .int k.Hi] ++ k.Fields.flatMap fieldLine
def moveSrc (m : A2_Int) : Str := lineS [109, 111, 118, 101] [.int m.a0, .int m.a1]
def lifeSrc (l : Sapi_Life) : Str := lineS [108, 105, 102, 101] ([.str l.Name, .int (l.States.length : Int)] ++ l.States.map .str) ++ l.Moves.flatMap moveSrc
def ruleItems (r : Sapi_Rule) : List AnyV := [.str r.Name, .str r.Kind, .str (namedS r.A), .str (namedS r.B), .int r.N]
def ruleSrc (r : Sapi_Rule) : Str := lineS [114, 117, 108, 101] (ruleItems r)
/-- The source. -/
def srcS (x : Sapi_Schema) : Str := lineS [115, 99, 104, 101, 109, 97] [.int x.Version] ++ x.Kinds.flatMap kindSrc ++ x.Lives.flatMap lifeSrc ++ x.Rules.flatMap ruleSrc

theorem kind_v {k : Sapi_Kind} (h : kindS k = true) : (∀ v ∈ [AnyV.str k.Name, .int k.Lo, .int k.Hi], VOk v) ∧ k.Fields.length ≤ 10 ∧ ∀ f ∈ k.Fields, fieldS f = true := by
  simp only [kindS, Bool.and_eq_true, List.all_eq_true, decide_eq_true_eq] at h
  obtain ⟨⟨⟨h1, h2⟩, h3⟩, h4⟩ := h
  have := span_le h2
  refine ⟨?_, by omega, h4⟩
  simp only [List.mem_cons, List.not_mem_nil, or_false, forall_eq_or_imp, forall_eq]
  exact ⟨name_v h1, small_v (by omega), small_v (by omega)⟩
theorem flat_len {α : Type} {l : List α} {g : α → Str} {B : Nat} (h : ∀ a ∈ l, (g a).length ≤ B) : (l.flatMap g).length ≤ l.length * B := by
  induction l with
  | nil => simp
  | cons a l ih =>
    have h1 := ih fun b hb => h b (List.mem_cons_of_mem _ hb)
    have h2 := h a List.mem_cons_self
    rw [List.flatMap_cons, List.length_append, List.length_cons, Nat.succ_mul]; omega
theorem kindSrc_len {k : Sapi_Kind} (h : kindS k = true) : (kindSrc k).length ≤ 50000 := by
  obtain ⟨h1, h2, h3⟩ := kind_v h
  have e1 := line_len (w := [107, 105, 110, 100]) (by decide) h1
  have e2 := flat_len (l := k.Fields) (g := fieldLine) (B := 4000) fun f hf => fieldLine_len (fieldS_ok (h3 f hf))
  unfold kindSrc
  rw [List.length_append]
  simp only [List.length_cons, List.length_nil] at e1
  omega
theorem move_v {n : Int} (hn : n ≤ 1000) {m : A2_Int} (h : moveS n m = true) : ∀ v ∈ [AnyV.int m.a0, .int m.a1], VOk v := by
  simp only [moveS, Bool.and_eq_true] at h
  have h1 := inW_le h.1
  have h2 := inW_le h.2
  simp only [List.mem_cons, List.not_mem_nil, or_false, forall_eq_or_imp, forall_eq]
  exact ⟨small_v (by omega), small_v (by omega)⟩
theorem life_v {l : Sapi_Life} (h : lifeS l = true) : (∀ v ∈ [AnyV.str l.Name, .int (l.States.length : Int)] ++ l.States.map .str, VOk v) ∧ l.States.length ≤ 12 ∧ l.Moves.length ≤ 32 ∧ ∀ m ∈ l.Moves, ∀ v ∈ [AnyV.int m.a0, .int m.a1], VOk v := by
  simp only [lifeS, Bool.and_eq_true, List.all_eq_true, decide_eq_true_eq] at h
  obtain ⟨⟨⟨⟨h1, h2⟩, h3⟩, h4⟩, h5⟩ := h
  have hl := (inW_le h2).2
  refine ⟨fun v hv => ?_, by omega, by omega, fun m hm => move_v (by omega) (h5 m hm)⟩
  rcases List.mem_append.1 hv with hv | hv
  · simp only [List.mem_cons, List.not_mem_nil, or_false] at hv
    rcases hv with rfl | rfl
    · exact name_v h1
    · exact small_v (by omega)
  · obtain ⟨s, hs, rfl⟩ := List.mem_map.1 hv
    exact name_v (h3 s hs)
theorem moveSrc_len {m : A2_Int} (h : ∀ v ∈ [AnyV.int m.a0, .int m.a1], VOk v) : (moveSrc m).length ≤ 300 := by
  have := line_len (w := [109, 111, 118, 101]) (by decide) h
  simp only [List.length_cons, List.length_nil] at this
  unfold moveSrc; omega
theorem lifeSrc_len {l : Sapi_Life} (h : lifeS l = true) : (lifeSrc l).length ≤ 20000 := by
  obtain ⟨h1, h2, h3, h4⟩ := life_v h
  have e1 := line_len (w := [108, 105, 102, 101]) (by decide) h1
  have e2 := flat_len (l := l.Moves) (g := moveSrc) (B := 300) fun m hm => moveSrc_len (h4 m hm)
  unfold lifeSrc
  rw [List.length_append]
  simp only [List.length_append, List.length_cons, List.length_nil, List.length_map] at e1
  omega
theorem rule_v {r : Sapi_Rule} (h : ruleS r = true) : ∀ v ∈ ruleItems r, VOk v := by
  simp only [ruleS, Bool.and_eq_true] at h
  obtain ⟨⟨⟨⟨⟨h1, h2⟩, h3⟩, h4⟩, _⟩, h5⟩ := h
  have := inW_le h5
  unfold ruleItems
  simp only [List.mem_cons, List.not_mem_nil, or_false, forall_eq_or_imp, forall_eq]
  exact ⟨name_v h1, name_v h2, named_v h3, named_v h4, small_v (by omega)⟩
theorem ruleSrc_len {r : Sapi_Rule} (h : ruleS r = true) : (ruleSrc r).length ≤ 1000 := by
  have := line_len (w := [114, 117, 108, 101]) (by decide) (rule_v h)
  have e : (ruleItems r).length = 5 := rfl
  unfold ruleSrc; omega

/-- A schema is valid, apart from the length of its source. -/
def validS (x : Sapi_Schema) : Bool := ((((inW x.Version 0 1048576 && decide ((x.Kinds.length : Int) ≤ 6)) && decide ((x.Lives.length : Int) ≤ 6)) && decide ((x.Rules.length : Int) ≤ 16)) && x.Kinds.all kindS) && x.Lives.all lifeS && x.Rules.all ruleS
structure ValidOk (x : Sapi_Schema) : Prop where
  version : 0 ≤ x.Version ∧ x.Version ≤ 1048576
  kinds : x.Kinds.length ≤ 6
  lives : x.Lives.length ≤ 6
  rules : x.Rules.length ≤ 16
  kind : ∀ k ∈ x.Kinds, kindS k = true
  life : ∀ l ∈ x.Lives, lifeS l = true
  rule : ∀ r ∈ x.Rules, ruleS r = true
theorem validS_ok {x : Sapi_Schema} (h : validS x = true) : ValidOk x := by
  simp only [validS, Bool.and_eq_true, List.all_eq_true, decide_eq_true_eq] at h
  obtain ⟨⟨⟨⟨⟨⟨h1, h2⟩, h3⟩, h4⟩, h5⟩, h6⟩, h7⟩ := h
  exact ⟨inW_le h1, by omega, by omega, by omega, h5, h6, h7⟩

theorem source_is {x : Sapi_Schema} (h : ValidOk x) : fschema_source x = some (srcS x) := by
  have hv := h.version
  have v0 : ∀ v ∈ [AnyV.int x.Version], VOk v := by simp only [List.mem_cons, List.not_mem_nil, or_false, forall_eq]; exact small_v (by omega)
  have l0 := line_len (w := [115, 99, 104, 101, 109, 97]) (by decide) v0
  simp only [List.length_cons, List.length_nil] at l0
  have lk := flat_len (l := x.Kinds) (g := kindSrc) (B := 50000) fun k hk => kindSrc_len (h.kind k hk)
  have ll := flat_len (l := x.Lives) (g := lifeSrc) (B := 20000) fun k hk => lifeSrc_len (h.life k hk)
  have nk := h.kinds
  have nl := h.lives
  have nr := h.rules
  unfold fschema_source
  rw [line_is (by decide) (by decide) (by simp) v0]
  simp only [Option.bind_some]
  rw [write_is (by rw [List.length_nil]; omega)]
  simp only [Option.bind_some, List.nil_append]
  rw [app_loop x.Kinds kindSrc 50000 (fun k hk => kindSrc_len (h.kind k hk)) (lineS [115, 99, 104, 101, 109, 97] [.int x.Version]) (fun k hk acc hacc => ?_) (fun acc => if_neg (by simp))]
  · simp only [Option.bind_some]
    rw [app_loop x.Lives lifeSrc 20000 (fun k hk => lifeSrc_len (h.life k hk)) (lineS [115, 99, 104, 101, 109, 97] [.int x.Version] ++ x.Kinds.flatMap kindSrc) (fun k hk acc hacc => ?_) (fun acc => if_neg (by simp))]
    · simp only [Option.bind_some]
      rw [app_loop x.Rules ruleSrc 1000 (fun k hk => ruleSrc_len (h.rule k hk)) (lineS [115, 99, 104, 101, 109, 97] [.int x.Version] ++ x.Kinds.flatMap kindSrc ++ x.Lives.flatMap lifeSrc) (fun k hk acc hacc => ?_) (fun acc => if_neg (by simp))]
      · simp only [Option.bind_some]
        have e : fBString (srcS x) = some (srcS x) := if_neg fun h => by
          have := congrArg List.length h
          simp only [srcS, lineS, List.length_append, List.length_cons, List.length_nil] at this; omega
        show (fBString (srcS x)).bind _ = _
        rw [e]; rfl
      · have hr := h.rule _ (List.getElem_mem hk)
        have hrl := ruleSrc_len hr
        rw [if_pos (by simpa using hk)]
        dsimp only
        rw [idx_lt hk]
        simp only [Option.bind_some]
        rw [named_is, named_is]
        simp only [Option.bind_some]
        show (fschema_line [114, 117, 108, 101] (ruleItems x.Rules[k])).bind _ = _
        rw [line_is (by decide) (by decide) (by simp [ruleItems]) (rule_v hr)]
        simp only [Option.bind_some]
        rw [List.length_append, List.length_append] at hacc
        rw [write_is (by show acc.length + (ruleSrc x.Rules[k]).length ≤ _; omega), w64_succ hk (by omega)]
        rfl
    · have hl := h.life _ (List.getElem_mem hk)
      obtain ⟨w1, w2, w3, w4⟩ := life_v hl
      have hll := lifeSrc_len hl
      rw [if_pos (by simpa using hk)]
      dsimp only
      rw [idx_lt hk]
      simp only [Option.bind_some]
      have hst : ∀ n, n ≤ x.Lives[k].States.length → ([AnyV.str x.Lives[k].Name, .int (x.Lives[k].States.length : Int)] ++ (x.Lives[k].States.take n).map AnyV.str).length ≤ 100 := fun n hn => by
        simp only [List.length_append, List.length_cons, List.length_nil, List.length_map, List.length_take]; omega
      refine for_bind x.Lives[k].States.length (fun n => ((n : Int), [AnyV.str x.Lives[k].Name, .int (x.Lives[k].States.length : Int)] ++ (x.Lives[k].States.take n).map AnyV.str)) _ (by simp) (fun n hn => ?_) (if_neg (by simp)) ?_
      · rw [if_pos (by simpa using hn)]
        dsimp only
        rw [idx_lt hn]
        simp only [Option.bind_some]
        rw [rm_le (by have := hst n (by omega); rw [List.length_singleton]; omega), w64_succ hn (by omega), List.take_succ_eq_append_getElem hn, List.map_append, ← List.append_assoc]
        rfl
      · dsimp only
        rw [List.take_of_length_le (Nat.le_refl _), line_is (by decide) (by decide) (by have := hst _ (Nat.le_refl _); rw [List.take_of_length_le (Nat.le_refl _)] at this; omega) w1]
        simp only [Option.bind_some]
        have l1 := line_len (w := [108, 105, 102, 101]) (by decide) w1
        simp only [List.length_append, List.length_cons, List.length_nil, List.length_map] at l1
        rw [List.length_append] at hacc
        rw [write_is (by omega)]
        simp only [Option.bind_some]
        rw [app_loop x.Lives[k].Moves moveSrc 300 (fun m hm => moveSrc_len (w4 m hm)) _ (fun q hq acc2 hacc2 => ?_) (fun acc => if_neg (by simp))]
        · simp only [Option.bind_some]
          rw [w64_succ hk (by omega)]
          simp [lifeSrc]
        · have hm := w4 _ (List.getElem_mem hq)
          have hml := moveSrc_len hm
          rw [if_pos (by simpa using hq)]
          dsimp only
          rw [idx_lt hq]
          simp only [Option.bind_some]
          rw [line_is (by decide) (by decide) (by simp) hm]
          simp only [Option.bind_some]
          rw [List.length_append] at hacc2
          rw [write_is (by show acc2.length + (moveSrc x.Lives[k].Moves[q]).length ≤ _; omega), w64_succ hq (by omega)]
          rfl
  · have hk' := h.kind _ (List.getElem_mem hk)
    obtain ⟨w1, w2, w3⟩ := kind_v hk'
    have l1 := line_len (w := [107, 105, 110, 100]) (by decide) w1
    simp only [List.length_cons, List.length_nil] at l1
    rw [if_pos (by simpa using hk)]
    dsimp only
    rw [idx_lt hk]
    simp only [Option.bind_some]
    rw [line_is (by decide) (by decide) (by simp) w1]
    simp only [Option.bind_some]
    rw [write_is (by omega)]
    simp only [Option.bind_some]
    rw [app_loop x.Kinds[k].Fields fieldLine 4000 (fun f hf => fieldLine_len (fieldS_ok (w3 f hf))) _ (fun q hq acc2 hacc2 => ?_) (fun acc => if_neg (by simp))]
    · simp only [Option.bind_some]
      rw [w64_succ hk (by omega)]
      simp [kindSrc]
    · have hf := fieldS_ok (w3 _ (List.getElem_mem hq))
      have hfl := fieldLine_len hf
      rw [if_pos (by simpa using hq)]
      dsimp only
      rw [idx_lt hq]
      simp only [Option.bind_some]
      rw [field_is hf]
      simp only [Option.bind_some]
      rw [List.length_append] at hacc2
      rw [write_is (by omega), w64_succ hq (by omega)]
      rfl

/-- What Valid returns. -/
def validE (x : Sapi_Schema) : Int := if validS x = true then (if (srcS x).length > 8192 then 4 else 0) else 1
/-- A schema whose lists are not huge. -/
def Fine (x : Sapi_Schema) : Prop := (x.Kinds.length ≤ 1000000 ∧ ∀ k ∈ x.Kinds, FieldsFew k.Fields) ∧ (x.Lives.length ≤ 1000000 ∧ ∀ l ∈ x.Lives, l.States.length ≤ 1000000 ∧ l.Moves.length ≤ 1000000) ∧ x.Rules.length ≤ 1000000
theorem Sz.fine {x : Sapi_Schema} (h : Sz x) : Fine x := by
  obtain ⟨⟨a1, a2⟩, ⟨b1, b2⟩, c⟩ := h
  refine ⟨⟨by omega, fun k hk => ⟨by have := (a2 k hk).1; omega, fun f hf => ?_⟩⟩, ⟨by omega, fun l hl => ?_⟩, by omega⟩
  · have := (a2 k hk).2 f hf
    exact ⟨by have := this.1; omega, by have := this.2; omega⟩
  · have := b2 l hl
    exact ⟨by omega, by omega⟩
theorem Valid_is {x : Sapi_Schema} (h : Fine x) : fschema_Valid x = some (validE x) := by
  obtain ⟨⟨a1, a2⟩, ⟨b1, b2⟩, c⟩ := h
  unfold fschema_Valid
  rw [allKind (p := kindS) a1 (fun k hk => isKind_is (a2 k hk)), allLife (p := lifeS) b1 (fun l hl => isLife_is (b2 l hl).1 (b2 l hl).2), allRule (p := ruleS) c (fun r _ => isRule_is r)]
  show (some (inW x.Version 0 1048576)).bind _ = _
  simp only [Option.bind_some]
  have n1 : ∀ (n : Nat) (m : Int), decide ((n : Int) > m) = !decide ((n : Int) ≤ m) := fun n m => by
    by_cases h : (n : Int) ≤ m
    · rw [decide_eq_true h, decide_eq_false (by omega)]; rfl
    · rw [decide_eq_false h, decide_eq_true (by omega)]; rfl
  rw [n1, n1, n1]
  unfold validE
  cases hv : validS x with
  | true =>
    have hs := source_is (validS_ok hv)
    simp only [validS, Bool.and_eq_true] at hv
    obtain ⟨⟨⟨⟨⟨⟨h1, h2⟩, h3⟩, h4⟩, h5⟩, h6⟩, h7⟩ := hv
    simp only [h1, h2, h3, h4, h5, h6, h7, Sim.opt, Bool.not_true, Bool.or_self, beq_self_eq_true, if_true, Option.bind_some]
    rw [if_neg (by decide), hs]
    simp only [Option.bind_some]
    by_cases hl : (srcS x).length > 8192
    · rw [if_pos (by simp; omega), if_pos hl]
    · rw [if_neg (by simp; omega), if_neg hl]
  | false =>
    rw [if_neg (by decide)]
    unfold validS at hv
    cases h1 : inW x.Version 0 1048576 <;> cases h2 : decide ((x.Kinds.length : Int) ≤ 6) <;> cases h3 : decide ((x.Lives.length : Int) ≤ 6) <;> cases h4 : decide ((x.Rules.length : Int) ≤ 16) <;>
      cases h5 : x.Kinds.all kindS <;> cases h6 : x.Lives.all lifeS <;> cases h7 : x.Rules.all ruleS <;> first | rfl | (rw [h1, h2, h3, h4, h5, h6, h7] at hv; cases hv)

end Go.Proofs.YthdfmpocknmleaaGreatDoor
