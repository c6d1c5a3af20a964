/- Package bounds: a smallest contradiction is one, and is smallest. No condition. -/
import Derived.Test.YtjniiejgccdhiaaBoundsU
namespace Go.Proofs.Ytjniiejgccdhiaa
open Go.Sim

theorem closeS_zero {m : Nat} {l : List SDiff} (hv : Valid m l) : (closeS ((m : Int) - 1) l).2 = if negB m (tP m l) = true then 14 else 0 := by
  rw [closeS_valid hv]; split <;> rfl

theorem neg_iff {m : Nat} {l : List SDiff} (hv : Valid m l) : negB m (tP m l) = true ↔ ∃ i es, walk i i es ∧ esum es < 0 ∧ ∀ e ∈ es, e ∈ l.map (edN m) := by
  have hf := tP_fin hv
  have hE := eds_w hv
  constructor
  · intro h
    have : ∃ i, i < m ∧ tP m l i i < 0 := by
      unfold negB at h
      obtain ⟨i, hi, h2⟩ := List.any_eq_true.1 h
      exact ⟨i, List.mem_range.1 hi, by simpa using h2⟩
    obtain ⟨i, hi, h2⟩ := this
    have u0 : INF = 1099511627776 := rfl
    obtain ⟨es, h3, h4, h5⟩ := way_walk (hf.way i i hi hi (by omega))
    exact ⟨i, es, h3, by omega, h5⟩
  · rintro ⟨i, es, h1, h2, h3⟩
    cases hn : negB m (tP m l) with
    | true => rfl
    | false =>
      rw [negB_false] at hn
      have hi : i < m := by
        cases es with
        | nil => simp [esum] at h2
        | cons e es => rw [← h1.1]; exact (hE e (h3 e (List.mem_cons_self ..))).1
      have := (way_le hf hn hE (walk_way h1 h3) hi hi).2
      have := hn i hi
      omega
theorem eds_small {m : Nat} {l : List SDiff} (hv : Valid m l) : SmallW (l.map (edN m)) := by
  intro x hx
  obtain ⟨d, hd, rfl⟩ := List.mem_map.1 hx
  obtain ⟨_, _, _, _, _, a6, a7⟩ := hv.ok d hd
  exact ⟨a6, a7⟩
theorem eds_loop {m : Nat} {l : List SDiff} (hv : Valid m l) : ∀ e ∈ l.map (edN m), e.a ≠ e.b := by
  intro x hx
  obtain ⟨d, hd, rfl⟩ := List.mem_map.1 hx
  obtain ⟨a1, a2, a3, a4, a5, _⟩ := hv.ok d hd
  have := hv.m1
  show rowN m d.A ≠ rowN m d.B
  unfold rowN
  split <;> split <;> omega

/-- Out of some of the differences: a contradiction of few of them is found early. -/
theorem neg_found {m : Nat} {l k : List SDiff} (hv : Valid m l) (hk : Valid m k) (hsub : ∀ x ∈ k, x ∈ l) (hn : negB m (tP m k) = true) :
    ∃ q first, 2 ≤ q ∧ q ≤ m ∧ q ≤ k.length ∧ first < l.length ∧ (cycleS (l.map (edN m)) q first).isEmpty = false := by
  obtain ⟨i, es, h1, h2, h3⟩ := (neg_iff hk).1 hn
  obtain ⟨j, cs, g1, g2, g3, g4⟩ := simple_neg es.length es i (Nat.le_refl _) h1 h2
  have hm11 := hv.m11
  have hcm : cs.length ≤ m := by
    have := nodup_len (cs.map Ed.a) (List.range m) g3 fun x hx => by
      obtain ⟨e, he, rfl⟩ := List.mem_map.1 hx
      exact List.mem_range.2 (eds_w hk e (h3 e (g4 e he))).1
    simpa using this
  have hck : cs.length ≤ k.length := by
    have := nodup_len (cs.map Ed.a) ((k.map (edN m)).map Ed.a) g3 fun x hx => by
      obtain ⟨e, he, rfl⟩ := List.mem_map.1 hx
      exact List.mem_map_of_mem (h3 e (g4 e he))
    simpa using this
  have hin : ∀ e ∈ cs, e ∈ l.map (edN m) := by
    intro e he
    obtain ⟨d, hd, rfl⟩ := List.mem_map.1 (h3 e (g4 e he))
    exact List.mem_map_of_mem (hsub d hd)
  obtain ⟨f1, first, f2, f3⟩ := cycleS_find (eds_small hv) (eds_loop hv) g1 g2 g3 hin (by omega)
  exact ⟨cs.length, first, f1, hcm, hck, by simpa using f2, f3⟩

theorem cycS_valid {m : Nat} {l : List SDiff} (hv : Valid m l) : cycS ((m : Int) - 1) l = match scan2 (cycleS (l.map (edN m))) l.length (m - 1) 2 with | some p => (p, 0) | none => ([], 6) := by
  unfold cycS
  rw [if_neg (by rw [validS_of hv]; simp), show ((m : Int) - 1 + 1).toNat = m by omega, show ((m : Int) - 1).toNat = m - 1 by omega]
  rfl

/-- Of the list js all but that at place s. -/
def pick (d : List SDiff) (js : List Nat) (s : Int) (i : Nat) : List SDiff := (List.range i).flatMap fun (q : Nat) => if (q : Int) ≠ s then [d.getD (js.getD q 0) ⟨0, 0, 0⟩] else []
theorem pick_mem {d : List SDiff} {js : List Nat} {s : Int} {i : Nat} {x : SDiff} : x ∈ pick d js s i ↔ ∃ q : Nat, q < i ∧ (q : Int) ≠ s ∧ x = d.getD (js.getD q 0) ⟨0, 0, 0⟩ := by
  unfold pick
  simp only [List.mem_flatMap, List.mem_range]
  constructor
  · rintro ⟨q, hq, hx⟩
    split at hx
    · next h => exact ⟨q, hq, h, List.mem_singleton.1 hx⟩
    · cases hx
  · rintro ⟨q, hq, h, rfl⟩
    exact ⟨q, hq, by rw [if_pos h]; exact List.mem_singleton.2 rfl⟩
theorem pick_snoc {d : List SDiff} {js : List Nat} {s : Int} {i : Nat} : pick d js s (i + 1) = pick d js s i ++ (if (i : Int) ≠ s then [d.getD (js.getD i 0) ⟨0, 0, 0⟩] else []) := flat_snoc
theorem pick_len {d : List SDiff} {js : List Nat} {s : Int} : ∀ i, (pick d js s i).length ≤ i ∧ (0 ≤ s → s < i → (pick d js s i).length + 1 ≤ i) := by
  intro i
  induction i with
  | zero => exact ⟨by simp [pick], fun h1 h2 => by omega⟩
  | succ i ih =>
    rw [pick_snoc, List.length_append]
    by_cases h : (i : Int) = s
    · rw [if_neg (by simpa using h)]
      simp only [List.length_nil]
      exact ⟨by omega, fun _ _ => by omega⟩
    · rw [if_pos h]
      simp only [List.length_cons, List.length_nil]
      exact ⟨by omega, fun h1 h2 => by have := ih.2 h1 (by omega); omega⟩

theorem cyc_some {m : Nat} {l : List SDiff} (hv : Valid m l) {p : List Int} (h : scan2 (cycleS (l.map (edN m))) l.length (m - 1) 2 = some p) :
    ∃ js : List Nat, p = js.map (fun (j : Nat) => (j : Int)) ∧ (∀ j ∈ js, j < l.length) ∧ 2 ≤ js.length ∧ js.length ≤ m ∧ negB m (tP m l) = true ∧
      ∀ s : Int, -1 ≤ s → s < js.length → Valid m (pick l js s js.length) ∧ negB m (tP m (pick l js s js.length)) = decide (s < 0) := by
  obtain ⟨q, i, h1, h2, h3, h4, h5, _, h7⟩ := scan2_some _ _ h
  have hm11 := hv.m11
  rw [h4] at h5
  obtain ⟨js, g1, g2, g3, i0, g4, g5⟩ := cycleS_ok (eds_small hv) (show 1 ≤ q by omega) (by omega) (by simpa using h3) h5
  have g3' : ∀ j ∈ js, j < l.length := fun j hj => by simpa using g3 j hj
  have hed : ∀ j, j < l.length → (l.map (edN m)).getD j e0 = edN m (l.getD j ⟨0, 0, 0⟩) := fun j hj => by
    rw [getD_in (by simpa using hj), List.getD_eq_getElem?_getD, List.getElem?_eq_getElem hj]; simp
  have hin : ∀ e ∈ js.map (fun j => (l.map (edN m)).getD j e0), ∃ q, q < js.length ∧ e = edN m (l.getD (js.getD q 0) ⟨0, 0, 0⟩) := by
    intro e he
    obtain ⟨j, hj, rfl⟩ := List.mem_map.1 he
    obtain ⟨q, hq, rfl⟩ := List.getElem_of_mem hj
    refine ⟨q, hq, ?_⟩
    rw [hed _ (g3' _ hj), List.getD_eq_getElem?_getD (l := js), List.getElem?_eq_getElem hq]; rfl
  have hjl : ∀ q, q < js.length → js.getD q 0 < l.length := fun q hq => by
    rw [List.getD_eq_getElem?_getD, List.getElem?_eq_getElem hq]; exact g3' _ (List.getElem_mem hq)
  have hgl : ∀ j, j < l.length → l.getD j ⟨0, 0, 0⟩ ∈ l := fun j hj => by
    rw [List.getD_eq_getElem?_getD, List.getElem?_eq_getElem hj]; exact List.getElem_mem hj
  refine ⟨js, h4.trans g1, g3', by omega, by omega, ?_, fun s hs1 hs2 => ?_⟩
  · refine (neg_iff hv).2 ⟨i0, _, g4, g5, fun e he => ?_⟩
    obtain ⟨q, hq, rfl⟩ := hin e he
    exact List.mem_map_of_mem (hgl _ (hjl q hq))
  · have hsub : ∀ x ∈ pick l js s js.length, x ∈ l := by
      intro x hx
      obtain ⟨q, hq, _, rfl⟩ := pick_mem.1 hx
      exact hgl _ (hjl q hq)
    have hvp : Valid m (pick l js s js.length) := ⟨hv.m1, hv.m11, by have := (pick_len (d := l) (js := js) (s := s) js.length).1; omega, fun x hx => hv.ok x (hsub x hx)⟩
    refine ⟨hvp, ?_⟩
    by_cases h0 : s < 0
    · rw [show decide (s < 0) = true by simpa using h0]
      refine (neg_iff hvp).2 ⟨i0, _, g4, g5, fun e he => ?_⟩
      obtain ⟨q, hq, rfl⟩ := hin e he
      exact List.mem_map_of_mem (pick_mem.2 ⟨q, hq, by omega, rfl⟩)
    · rw [show decide (s < 0) = false by simpa using h0]
      cases hn : negB m (tP m (pick l js s js.length)) with
      | false => rfl
      | true =>
        obtain ⟨q', first, f1, f2, f3, f4, f5⟩ := neg_found hv hvp hsub hn
        have := (pick_len (d := l) (js := js) (s := s) js.length).2 (by omega) hs2
        have := h7 q' f1 (by omega) first f4
        rw [this] at f5; cases f5
theorem cyc_none {m : Nat} {l : List SDiff} (hv : Valid m l) (h : scan2 (cycleS (l.map (edN m))) l.length (m - 1) 2 = none) : negB m (tP m l) = false := by
  cases hn : negB m (tP m l) with
  | false => rfl
  | true =>
    obtain ⟨q, first, f1, f2, _, f4, f5⟩ := neg_found hv hv (fun x hx => hx) hn
    have := scan2_none _ _ h q f1 (by omega) first f4
    rw [this] at f5; cases f5

theorem closeS_perm {m : Nat} {k l : List SDiff} (hk : Valid m k) (hl : Valid m l) (h : ∀ x, x ∈ k ↔ x ∈ l) : closeS ((m : Int) - 1) k = closeS ((m : Int) - 1) l := by
  have f1 := tP_fin hk
  have f2 := tP_fin hl
  have hE := eds_w hl
  have mem : ∀ e, e ∈ k.map (edN m) ↔ e ∈ l.map (edN m) := fun e => by
    simp only [List.mem_map]
    constructor
    · rintro ⟨d, hd, rfl⟩; exact ⟨d, (h d).1 hd, rfl⟩
    · rintro ⟨d, hd, rfl⟩; exact ⟨d, (h d).2 hd, rfl⟩
  have f3 : Fin (l.map (edN m)) m (tP m k) := by
    refine ⟨f1.hi, f1.up, fun i j hi hj hf => ?_, f1.diag, f1.tri, fun e he => f1.edge e ((mem e).2 he)⟩
    obtain ⟨es, w1, w2, w3⟩ := way_walk (f1.way i j hi hj hf)
    rw [← w2]
    exact walk_way w1 fun e he => (mem e).1 (w3 e he)
  have hneg : negB m (tP m k) = negB m (tP m l) := by
    cases h1 : negB m (tP m l) with
    | false => rw [negB_false] at h1 ⊢; exact fin_neg f2 f3 hE h1
    | true =>
      cases h2 : negB m (tP m k) with
      | true => rfl
      | false =>
        rw [negB_false] at h2
        have := negB_false.2 (fin_neg f3 f2 hE h2)
        rw [this] at h1; cases h1
  rw [closeS_valid hk, closeS_valid hl, hneg]
  cases h1 : negB m (tP m l) with
  | true => rfl
  | false =>
    rw [if_neg (by simp), if_neg (by simp)]
    rw [negB_false] at h1
    congr 1
    exact tab_congr fun i j hi hj => (fin_eq f2 f3 hE h1 i j hi hj).symm

end Go.Proofs.Ytjniiejgccdhiaa
