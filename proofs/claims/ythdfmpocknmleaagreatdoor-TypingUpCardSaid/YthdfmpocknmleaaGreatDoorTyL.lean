/- schema.Valid, as a plain function. No condition. -/
import Derived.Test.YthdfmpocknmleaaGreatDoorTyK
namespace Go.Proofs.YthdfmpocknmleaaGreatDoor
open Go.Sim

theorem name_v {s : Str} (h : nameS s = true) : VOk (.str s) := by have := nameS_len h; show s.length ≤ 100; omega
theorem named_v {s : Str} (h : ((s == []) || nameS s) = true) : VOk (.str (namedS s)) := by
  unfold namedS
  by_cases hs : s = []
  · rw [if_pos hs]; show ([45] : Str).length ≤ 100; decide
  · rw [if_neg hs]
    have : nameS s = true := by simpa [hs] using h
    exact name_v this
theorem small_v {n : Int} (h : -100000000 ≤ n ∧ n ≤ 100000000) : VOk (.int n) := by show I64 n; unfold I64; omega
theorem zip_pairs {l : List Str} {g : List Int} (h : l.length = g.length) (k : Nat) (hk : k < l.length) : (((l.zip g).take k).flatMap fun p => [AnyV.str p.1, AnyV.int p.2]) ++ [AnyV.str l[k], AnyV.int (g[k]'(by omega))] = ((l.zip g).take (k + 1)).flatMap fun p => [AnyV.str p.1, AnyV.int p.2] := by
  rw [List.take_succ_eq_append_getElem (by rw [List.length_zip]; omega), List.flatMap_append, List.getElem_zip]
  rfl
theorem pairs_len (l : List (Str × Int)) : (l.flatMap fun p => [AnyV.str p.1, AnyV.int p.2]).length = 2 * l.length := by
  induction l with
  | nil => rfl
  | cons a l ih => rw [List.flatMap_cons, List.length_append, ih]; simp; omega
/-- What a valid field is. -/
structure FieldOk (f : Sapi_Field) : Prop where
  kind : 0 ≤ f.Kind ∧ f.Kind ≤ 8
  items : ∀ v ∈ itemsS f, VOk v
  count : (itemsS f).length ≤ 30
  pick : f.Kind = 3 → f.Words.length = f.Weights.length ∧ f.Words.length ≤ 12
theorem span_le {lo hi a b : Int} (h : spanS lo hi a b = true) : a ≤ lo ∧ lo ≤ hi ∧ hi ≤ b := by
  simp only [spanS, Bool.and_eq_true, decide_eq_true_eq] at h; omega
theorem fieldS_ok {f : Sapi_Field} (h : fieldS f = true) : FieldOk f := by
  unfold fieldS at h
  simp only [Bool.and_eq_true] at h
  obtain ⟨⟨hn, _⟩, hp⟩ := h
  have hnv := name_v hn
  unfold partS at hp
  by_cases c0 : f.Kind = 0
  · rw [if_pos c0] at hp
    have e : itemsS f = [.str f.Name, .int f.Lo] := by unfold itemsS; rw [if_pos c0]
    refine ⟨by omega, ?_, by rw [e]; simp, fun h => by omega⟩
    have := inW_le hp
    rw [e]; simp only [List.mem_cons, List.not_mem_nil, or_false, forall_eq_or_imp, forall_eq]
    exact ⟨hnv, small_v (by omega)⟩
  rw [if_neg c0] at hp
  by_cases c1 : f.Kind = 1
  · rw [if_pos c1] at hp
    simp only [Bool.and_eq_true] at hp
    have e : itemsS f = [.str f.Name, .str (namedS f.Of), .int f.Lo, .int f.Hi] := by unfold itemsS; simp [c1]
    have := span_le hp.2
    refine ⟨by omega, ?_, by rw [e]; simp, fun h => by omega⟩
    rw [e]; simp only [List.mem_cons, List.not_mem_nil, or_false, forall_eq_or_imp, forall_eq]
    exact ⟨hnv, named_v (by rw [hp.1]; simp), small_v (by omega), small_v (by omega)⟩
  rw [if_neg c1] at hp
  by_cases c2 : f.Kind = 2
  · rw [if_pos c2] at hp
    have e : itemsS f = [.str f.Name, .int f.Lo, .int f.Hi] := by unfold itemsS; simp [c2]
    have := span_le hp
    refine ⟨by omega, ?_, by rw [e]; simp, fun h => by omega⟩
    rw [e]; simp only [List.mem_cons, List.not_mem_nil, or_false, forall_eq_or_imp, forall_eq]
    exact ⟨hnv, small_v (by omega), small_v (by omega)⟩
  rw [if_neg c2] at hp
  by_cases c3 : f.Kind = 3
  · rw [if_pos c3] at hp
    simp only [pickS, Bool.and_eq_true, List.all_eq_true, beq_iff_eq] at hp
    obtain ⟨hg, ⟨⟨hw, hl⟩, _⟩, hws⟩ := hp
    have hw' := (inW_le hw).2
    have hl' : f.Words.length = f.Weights.length := by omega
    have e : itemsS f = [.str f.Name, .int (f.Words.length : Int)] ++ (f.Words.zip f.Weights).flatMap fun p => [.str p.1, .int p.2] := by unfold itemsS; simp [c3]
    refine ⟨by omega, ?_, ?_, fun _ => ⟨hl', by omega⟩⟩
    · rw [e]
      intro v hv
      rcases List.mem_append.1 hv with hv | hv
      · simp only [List.mem_cons, List.not_mem_nil, or_false] at hv
        rcases hv with rfl | rfl
        · exact hnv
        · exact small_v (by omega)
      · obtain ⟨p, hp, hv⟩ := List.mem_flatMap.1 hv
        obtain ⟨a, b⟩ := p
        have hz := List.of_mem_zip hp
        simp only [List.mem_cons, List.not_mem_nil, or_false] at hv
        rcases hv with rfl | rfl
        · exact name_v (hws _ hz.1)
        · have := inW_le (hg _ hz.2); exact small_v (by omega)
    · rw [e, List.length_append, pairs_len, List.length_zip]
      simp only [List.length_cons, List.length_nil]
      omega
  rw [if_neg c3] at hp
  by_cases c4 : f.Kind = 4
  · rw [if_pos c4] at hp
    simp only [Bool.and_eq_true] at hp
    have e : itemsS f = [.str f.Name, .str (namedS f.Of), .int f.Lo, .int f.Hi] := by unfold itemsS; simp [c4]
    have := span_le hp.2
    refine ⟨by omega, ?_, by rw [e]; simp, fun h => by omega⟩
    rw [e]; simp only [List.mem_cons, List.not_mem_nil, or_false, forall_eq_or_imp, forall_eq]
    exact ⟨hnv, named_v hp.1, small_v (by omega), small_v (by omega)⟩
  rw [if_neg c4] at hp
  by_cases c5 : f.Kind = 5
  · rw [if_pos c5] at hp
    simp only [Bool.and_eq_true] at hp
    have e : itemsS f = [.str f.Name, .str (namedS f.Of), .int f.Lo, .int f.Hi] := by unfold itemsS; simp [c5]
    have := span_le hp.2
    refine ⟨by omega, ?_, by rw [e]; simp, fun h => by omega⟩
    rw [e]; simp only [List.mem_cons, List.not_mem_nil, or_false, forall_eq_or_imp, forall_eq]
    exact ⟨hnv, named_v (by rw [hp.1]; simp), small_v (by omega), small_v (by omega)⟩
  rw [if_neg c5] at hp
  by_cases c6 : f.Kind = 6
  · rw [if_pos c6] at hp
    have e : itemsS f = [.str f.Name, .str f.Of] := by unfold itemsS; simp [c6]
    refine ⟨by omega, ?_, by rw [e]; simp, fun h => by omega⟩
    rw [e]; simp only [List.mem_cons, List.not_mem_nil, or_false, forall_eq_or_imp, forall_eq]
    exact ⟨hnv, name_v hp⟩
  rw [if_neg c6] at hp
  by_cases c7 : f.Kind = 7
  · rw [if_pos c7] at hp
    simp only [Bool.and_eq_true] at hp
    have e : itemsS f = [.str f.Name, .str f.Up, .str f.Of, .int f.Lo, .int f.Hi] := by unfold itemsS; simp [c7]
    have := span_le hp.2
    refine ⟨by omega, ?_, by rw [e]; simp, fun h => by omega⟩
    rw [e]; simp only [List.mem_cons, List.not_mem_nil, or_false, forall_eq_or_imp, forall_eq]
    exact ⟨hnv, name_v hp.1.2, name_v hp.1.1, small_v (by omega), small_v (by omega)⟩
  rw [if_neg c7] at hp
  by_cases c8 : f.Kind = 8
  · rw [if_pos c8] at hp
    simp only [Bool.and_eq_true] at hp
    have e : itemsS f = [.str f.Name, .str f.Up, .str f.Of] := by unfold itemsS; simp [c8]
    refine ⟨by omega, ?_, by rw [e]; simp, fun h => by omega⟩
    rw [e]; simp only [List.mem_cons, List.not_mem_nil, or_false, forall_eq_or_imp, forall_eq]
    exact ⟨hnv, name_v hp.2, name_v hp.1⟩
  rw [if_neg c8] at hp
  cases hp
theorem wordS_len {f : Sapi_Field} (h : 0 ≤ f.Kind ∧ f.Kind ≤ 8) : idx wordsL f.Kind = some (wordS f) ∧ 1 ≤ (wordS f).length ∧ (wordS f).length ≤ 10 := by
  obtain ⟨k, hk⟩ := Int.eq_ofNat_of_zero_le h.1
  have hk8 : k ≤ 8 := by omega
  unfold wordS
  rw [hk, idx_nat, Int.toNat_natCast]
  have : k = 0 ∨ k = 1 ∨ k = 2 ∨ k = 3 ∨ k = 4 ∨ k = 5 ∨ k = 6 ∨ k = 7 ∨ k = 8 := by omega
  rcases this with rfl | rfl | rfl | rfl | rfl | rfl | rfl | rfl | rfl <;> exact ⟨rfl, by decide, by decide⟩
theorem field_is {f : Sapi_Field} (h : FieldOk f) : fschema_field f = some (fieldLine f) := by
  obtain ⟨e0, w1, w2⟩ := wordS_len h.kind
  have fin : fschema_line (wordS f) (itemsS f) = some (fieldLine f) := line_is w1 w2 (by have := h.count; omega) h.items
  unfold fschema_field
  rw [e0]
  simp only [Option.bind_some]
  by_cases c0 : f.Kind = 0
  · rw [if_pos (by simp [c0])]
    have e : itemsS f = [.str f.Name, .int f.Lo] := by unfold itemsS; simp [c0]
    rw [← e, fin]; rfl
  rw [if_neg (by simpa using c0)]
  by_cases c2 : f.Kind = 2
  · rw [if_pos (by simp [c2])]
    have e : itemsS f = [.str f.Name, .int f.Lo, .int f.Hi] := by unfold itemsS; simp [c2]
    rw [← e, fin]; rfl
  rw [if_neg (by simpa using c2)]
  by_cases c3 : f.Kind = 3
  · rw [if_pos (by simp [c3])]
    obtain ⟨p1, p2⟩ := h.pick c3
    have e : itemsS f = [.str f.Name, .int (f.Words.length : Int)] ++ (f.Words.zip f.Weights).flatMap fun p => [.str p.1, .int p.2] := by unfold itemsS; simp [c3]
    refine for_bind f.Words.length (fun n => ((n : Int), [.str f.Name, .int (f.Words.length : Int)] ++ ((f.Words.zip f.Weights).take n).flatMap fun p => [.str p.1, .int p.2])) _ (by simp) (fun n hn => ?_) (if_neg (by simp)) ?_
    · have hlen : (((f.Words.zip f.Weights).take n).flatMap fun p => [AnyV.str p.1, AnyV.int p.2]).length ≤ 100 := by
        rw [pairs_len, List.length_take, List.length_zip]; omega
      rw [if_pos (by simpa using hn)]
      dsimp only
      rw [idx_lt hn, idx_lt (by omega)]
      simp only [Option.bind_some]
      rw [rm_le (by simp only [List.length_append, List.length_cons, List.length_nil]; omega), w64_succ hn (by omega), ← zip_pairs p1 n hn, List.append_assoc]
      rfl
    · dsimp only
      rw [List.take_of_length_le (by rw [List.length_zip]; omega), ← e, fin]; rfl
  rw [if_neg (by simpa using c3)]
  by_cases c6 : f.Kind = 6
  · rw [if_pos (by simp [c6])]
    have e : itemsS f = [.str f.Name, .str f.Of] := by unfold itemsS; simp [c6]
    rw [← e, fin]; rfl
  rw [if_neg (by simpa using c6)]
  by_cases c7 : f.Kind = 7
  · rw [if_pos (by simp [c7])]
    have e : itemsS f = [.str f.Name, .str f.Up, .str f.Of, .int f.Lo, .int f.Hi] := by unfold itemsS; simp [c7]
    rw [← e, fin]; rfl
  rw [if_neg (by simpa using c7)]
  by_cases c8 : f.Kind = 8
  · rw [if_pos (by simp [c8])]
    have e : itemsS f = [.str f.Name, .str f.Up, .str f.Of] := by unfold itemsS; simp [c8]
    rw [← e, fin]; rfl
  rw [if_neg (by simpa using c8), named_is]
  simp only [Option.bind_some]
  have e : itemsS f = [.str f.Name, .str (namedS f.Of), .int f.Lo, .int f.Hi] := by unfold itemsS; simp [c0, c2, c3, c6, c7, c8]
  rw [← e, fin]; rfl
theorem fieldLine_len {f : Sapi_Field} (h : FieldOk f) : (fieldLine f).length ≤ 4000 := by
  have := line_len (wordS_len h.kind).2.2 h.items
  have := h.count
  unfold fieldLine
  omega

end Go.Proofs.YthdfmpocknmleaaGreatDoor
