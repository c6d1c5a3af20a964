/- The source of a schema, as a plain function: package schema. No condition. -/
import Derived.Test.YthdfmpocknmleaaGreatDoorTyJ
namespace Go.Proofs.YthdfmpocknmleaaGreatDoor
open Go.Sim

theorem digits_len : ∀ (k u : Nat), u < 10 ^ (k + 1) → (Lib.decDigits u).length ≤ k + 1
  | 0, u, h => by rw [Lib.decDigits, dif_pos (by simpa using h)]; simp
  | k + 1, u, h => by
    rw [Lib.decDigits]
    split
    · simp
    · have := digits_len k (u / 10) (by rw [Nat.pow_succ] at h; omega)
      rw [List.length_append, List.length_singleton]; omega
theorem itoa_len {n : Int} (h : I64 n) : (Lib.itoa n).length ≤ 20 := by
  unfold I64 at h
  unfold Lib.itoa
  split
  · have := digits_len 18 n.natAbs (by omega)
    rw [List.length_cons]; omega
  · have := digits_len 18 n.toNat (by omega)
    omega
theorem Itoa_is {n : Int} (h : I64 n) : fItoa n = some (Lib.itoa n) := if_pos h

/-- The text of a value. -/
def textS : AnyV → Str
  | .int n => Lib.itoa n
  | .str s => s
def VOk : AnyV → Prop
  | .int n => I64 n
  | .str s => s.length ≤ 100
theorem text_len {v : AnyV} (h : VOk v) : (textS v).length ≤ 100 := by
  cases v with
  | int n => have := itoa_len h; show (Lib.itoa n).length ≤ 100; omega
  | str s => exact h
/-- A blank and a value, for each. -/
def toks (l : List AnyV) : Str := l.flatMap fun v => 32 :: textS v
theorem toks_len {l : List AnyV} (h : ∀ v ∈ l, VOk v) : (toks l).length ≤ l.length * 101 := by
  induction l with
  | nil => simp [toks]
  | cons v l ih =>
    have h1 := ih fun u hu => h u (List.mem_cons_of_mem _ hu)
    have h2 := text_len (h v List.mem_cons_self)
    have e : toks (v :: l) = (32 :: textS v) ++ toks l := rfl
    rw [e, List.length_append, List.length_cons, List.length_cons]
    omega
def lineS (w : Str) (l : List AnyV) : Str := w ++ toks l ++ [10]
theorem write_is {a b : Str} (h : a.length + b.length ≤ 68719476736) : fBWriteString a b = some (a ++ b) := if_pos h
theorem line_is {w : Str} {l : List AnyV} (h1 : 1 ≤ w.length) (h2 : w.length ≤ 10) (hl : l.length ≤ 1000) (hv : ∀ v ∈ l, VOk v) : fschema_line w l = some (lineS w l) := by
  have key : Ok (fschema_line w l) (fun r => r = lineS w l) := by
    unfold fschema_line
    rw [write_is (by simp; omega)]
    simp only [Option.bind_some, List.nil_append]
    refine Ok.bind (P := fun r => r = w ++ toks l) (Ok.loop (fun m s => 0 ≤ s.1 ∧ s.1 + m = l.length ∧ s.2 = w ++ toks (l.take s.1.toNat)) l.length ⟨Int.le_refl _, by dsimp only; omega, by simp [toks]⟩ fun m s hs => ?_) fun r hr => ?_
    · obtain ⟨i, t⟩ := s
      obtain ⟨e1, e2, e3⟩ := hs
      dsimp only at e1 e2 e3
      obtain ⟨k, rfl⟩ := Int.eq_ofNat_of_zero_le e1
      rw [Int.toNat_natCast] at e3
      subst e3
      refine Ok.ite (fun hk => ?_) (fun hk => ?_)
      · have hk' : k < l.length := by simpa using hk
        have hvk := hv _ (List.getElem_mem hk')
        have hlen := toks_len (l := l.take k) fun v hm => hv v (List.mem_of_mem_take hm)
        have htl := text_len hvk
        have hlk : (l.take k).length ≤ 1000 := by rw [List.length_take]; omega
        dsimp only
        rw [idx_lt hk']
        simp only [Option.bind_some]
        have eb : fBWriteByte (w ++ toks (l.take k)) 32 = some (w ++ toks (l.take k) ++ [32]) := if_pos ⟨by decide, by decide, by rw [List.length_append]; omega⟩
        rw [eb]
        simp only [Option.bind_some]
        refine Ok.bind (P := fun p => p = w ++ toks (l.take k) ++ [32] ++ textS l[k]) ?_ fun p hp => Ok.mk ⟨m - 1, by omega, ?_⟩
        · cases hk2 : l[k] with
          | int n =>
            rw [hk2] at hvk htl
            show Ok (if true = true then _ else _) _
            rw [if_pos rfl]
            show Ok ((fItoa n).bind _) _
            rw [Itoa_is hvk]
            simp only [Option.bind_some]
            have hi := itoa_len hvk
            rw [write_is (by simp only [List.length_append, List.length_singleton]; omega)]
            exact Ok.mk rfl
          | str s =>
            rw [hk2] at hvk htl
            show Ok (if false = true then _ else ((if true = true then (fBWriteString (w ++ toks (l.take k) ++ [32]) s).bind _ else _)).bind _) _
            rw [if_neg (by decide), if_pos rfl]
            have hs : s.length ≤ 100 := hvk
            rw [write_is (by simp only [List.length_append, List.length_singleton]; omega)]
            exact Ok.mk rfl
        · subst hp
          dsimp only
          rw [w64_succ hk' (by omega)]
          refine ⟨by omega, by omega, ?_⟩
          rw [Int.toNat_natCast, List.take_succ_eq_append_getElem hk']
          simp only [toks, List.flatMap_append, List.flatMap_cons, List.flatMap_nil, List.append_nil, List.append_assoc, List.cons_append, List.nil_append]
      · have hk' : ¬ k < l.length := by simpa using hk
        refine Ok.mk ?_
        dsimp only
        rw [List.take_of_length_le (by omega)]
    · subst hr
      have hlen := toks_len hv
      have eb : fBString (w ++ toks l) = some (w ++ toks l) := if_neg fun h => by
        have := congrArg List.length h
        rw [List.length_append, List.length_nil] at this; omega
      rw [eb]
      simp only [Option.bind_some]
      exact Ok.cat (by rw [List.length_append, List.length_singleton]; omega) (Ok.mk rfl)
  obtain ⟨r, hr, rfl⟩ := key
  exact hr
theorem line_len {w : Str} {l : List AnyV} (h2 : w.length ≤ 10) (hv : ∀ v ∈ l, VOk v) : (lineS w l).length ≤ 11 + l.length * 101 := by
  have := toks_len hv
  unfold lineS
  rw [List.length_append, List.length_append, List.length_singleton]; omega

/-- The token of a name that may be empty. -/
def namedS (s : Str) : Str := if s = [] then [45] else s
theorem named_is (s : Str) : fschema_named s = some (namedS s) := by
  unfold fschema_named fcmp_Or_string
  have key : ∀ body : Int → Option (Int ⊕ (Unit ⊕ Str)), (body 0 = if (s != []) = true then some (.inr (.inr s)) else some (.inl 1)) → body 1 = some (.inr (.inr [45])) →
      tailrec body 0 = some (.inr (namedS s)) := fun body h0 h1 => by
    rw [tailrec_eq, h0]
    unfold namedS
    by_cases hs : s = []
    · rw [if_neg (by simp [hs]), if_pos hs]
      show tailrec body 1 = _
      rw [tailrec_eq, h1]
    · rw [if_pos (by simpa using hs), if_neg hs]
  rw [key _ rfl rfl]; rfl

/-- What a line of a field says. -/
def itemsS (f : Sapi_Field) : List AnyV :=
  if f.Kind = 0 then [.str f.Name, .int f.Lo]
  else if f.Kind = 2 then [.str f.Name, .int f.Lo, .int f.Hi]
  else if f.Kind = 3 then [.str f.Name, .int (f.Words.length : Int)] ++ (f.Words.zip f.Weights).flatMap fun p => [.str p.1, .int p.2]
  else if f.Kind = 6 then [.str f.Name, .str f.Of]
  else if f.Kind = 7 then [.str f.Name, .str f.Up, .str f.Of, .int f.Lo, .int f.Hi]
  else if f.Kind = 8 then [.str f.Name, .str f.Up, .str f.Of]
  else [.str f.Name, .str (namedS f.Of), .int f.Lo, .int f.Hi]
def wordS (f : Sapi_Field) : Str := wordsL[f.Kind.toNat]?.getD []
/-- The line of a field. -/
def fieldLine (f : Sapi_Field) : Str := lineS (wordS f) (itemsS f)

end Go.Proofs.YthdfmpocknmleaaGreatDoor
