/- What a schema without problems has: each field that leads, leads up to an earlier kind; each sum has its share. No condition. -/
import Derived.Test.YthdfmpocknmleaaGreatDoorTyO
namespace Go.Proofs.YthdfmpocknmleaaGreatDoor
open Go.Sim

theorem prob_nil {k j r e : Int} (h : prob k j r e = []) : e = 0 := by
  unfold prob at h
  split at h
  · assumption
  · cases h
theorem clean {x : Sapi_Schema} (hc : checkS x = []) {k j : Int} {q : Sapi_Kind} {f : Sapi_Field} (hq : idx x.Kinds k = some q) (hf : field? x k j = some f) : leadE x q k j f = 0 := by
  obtain ⟨q', hk, hj, hq', hqf, _, hkl, hjl⟩ := field_some hf
  rw [hq] at hq'; cases hq'
  obtain ⟨i, rfl⟩ := Int.eq_ofNat_of_zero_le hk
  obtain ⟨n, rfl⟩ := Int.eq_ofNat_of_zero_le hj
  rw [idx_nat] at hq hqf
  unfold checkS at hc
  split at hc
  · simp only [List.append_eq_nil_iff] at hc
    have h1 := hc.1.2
    unfold kindsP at h1
    rw [List.flatMap_eq_nil_iff] at h1
    have h2 := h1 i (List.mem_range.2 (by omega))
    unfold kindP at h2
    rw [hq] at h2
    dsimp only at h2
    rw [List.append_eq_nil_iff] at h2
    have h3 := h2.2
    unfold fieldsP at h3
    rw [List.flatMap_eq_nil_iff] at h3
    have h4 := h3 n (List.mem_range.2 (by omega))
    unfold fieldP at h4
    rw [hqf] at h4
    have h5 := prob_nil h4
    unfold fieldE at h5
    split at h5
    · cases h5
    · exact h5
  · cases hc
theorem up_none {x : Sapi_Schema} {k j : Int} {f : Sapi_Field} (hf : field? x k j = some f) (h1 : f.Kind ≠ 1) (h7 : f.Kind ≠ 7) (h8 : f.Kind ≠ 8) : upIx x k j = -1 := by
  unfold upIx
  rw [hf]
  dsimp only
  rw [if_neg (by omega), if_neg h1]
theorem first_lost {a : Bool} {c : Int} {r : List Styping_fault} (h : firstS (⟨a, c⟩ :: r) = 0) (hc : c ≠ 0) : a = false ∧ firstS r = 0 := by
  unfold firstS at h
  cases a with
  | true => exact (hc h).elim
  | false => exact ⟨rfl, h⟩
theorem up_clean {x : Sapi_Schema} {q : Sapi_Kind} {k j : Int} {f : Sapi_Field} (h : leadE x q k j f = 0) (hk : f.Kind = 1 ∨ f.Kind = 7 ∨ f.Kind = 8) : 0 ≤ upIx x k j := by
  unfold leadE at h
  rcases hk with hk | hk | hk
  · rw [if_neg (by omega), if_pos hk] at h
    have := (first_lost h (by decide)).1
    simpa using this
  · rw [if_neg (by omega), if_neg (by omega), if_neg (by omega), if_neg (by omega), if_neg (by omega), if_pos hk] at h
    have := (first_lost h (by decide)).1
    simpa using this
  · rw [if_neg (by omega), if_neg (by omega), if_neg (by omega), if_neg (by omega), if_neg (by omega), if_neg (by omega), if_pos hk] at h
    have := (first_lost h (by decide)).1
    simpa using this
theorem share_none {x : Sapi_Schema} {k j : Int} {f : Sapi_Field} (hf : field? x k j = some f) (h6 : f.Kind ≠ 6) : shareIx x k j = (-1, -1) := by
  unfold shareIx
  rw [hf]
  dsimp only
  unfold sumIx
  rw [if_pos (.inl h6)]
theorem share_clean {x : Sapi_Schema} {q : Sapi_Kind} {k j : Int} {f : Sapi_Field} (hf : field? x k j = some f) (h : leadE x q k j f = 0) (h6 : f.Kind = 6) : ∃ o a, shareIx x k j = (o, a) ∧ k < o ∧ upIx x o a = k := by
  obtain ⟨_, hk, _⟩ := field_some hf
  unfold leadE at h
  rw [if_neg (by omega), if_neg (by omega), if_neg (by omega), if_neg (by omega), if_pos h6] at h
  obtain ⟨e1, h⟩ := first_lost h (by decide)
  obtain ⟨e2, _⟩ := first_lost h (by decide)
  have e1' : ¬ (sumIx x k f).1 < 0 := by simpa using e1
  have e2' : (sumIx x k f).2.length = 1 := by
    have : ((sumIx x k f).2.length : Int) = 1 := by simpa using e2
    omega
  obtain ⟨a, ha⟩ := List.length_eq_one_iff.1 e2'
  unfold sumIx at e1' ha
  split at e1'
  · exact (e1' (by decide)).elim
  · rename_i hc
    rw [if_neg hc] at ha
    have hko : k < kindIx x f.Of := by
      rcases Int.lt_or_le k (kindIx x f.Of) with h | h
      · exact h
      · exact (hc (.inr h)).elim
    refine ⟨kindIx x f.Of, a, ?_, hko, ?_⟩
    · unfold shareIx
      rw [hf]
      dsimp only
      unfold sumIx
      rw [if_neg hc]
      dsimp only at ha ⊢
      rw [ha]
    · dsimp only at ha
      unfold shl at ha
      split at ha
      · rename_i q2 _
        have hm : a ∈ ((List.range q2.Fields.length).filter (shareQ x (kindIx x f.Of) k f.Name q2.Fields)).map Int.ofNat := by rw [ha]; exact List.mem_singleton_self _
        obtain ⟨n, hn, rfl⟩ := List.mem_map.1 hm
        have hp := (List.mem_filter.1 hn).2
        unfold shareQ at hp
        split at hp
        · simp only [Bool.and_eq_true, beq_iff_eq] at hp
          exact hp.2
        · cases hp
      · cases ha

end Go.Proofs.YthdfmpocknmleaaGreatDoor
