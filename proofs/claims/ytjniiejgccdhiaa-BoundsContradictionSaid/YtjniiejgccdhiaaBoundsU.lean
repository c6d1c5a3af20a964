/- Package bounds: the search finds a closed way of negative sum, and finds one if there is one. No condition. -/
import Derived.Test.YtjniiejgccdhiaaBoundsT
namespace Go.Proofs.Ytjniiejgccdhiaa
open Go.Sim

abbrev e0 : Ed := ⟨0, 0, 0⟩
theorem inS_find {E : List Ed} {L : Nat → Int} : ∀ (k i : Nat) (st : Wk), i + k = E.length → (∃ j, i ≤ j ∧ j < E.length ∧ ((E.getD j e0).a == st.1 && goesB L st.2.2 (E.getD j e0).w (E.getD j e0).b) = true) →
    ∃ j, i ≤ j ∧ j < E.length ∧ ((E.getD j e0).a == st.1 && goesB L st.2.2 (E.getD j e0).w (E.getD j e0).b) = true ∧ inS E L k i st = ((E.getD j e0).b, st.2.1 ++ [(j : Int)], IntKind.i64.wrap (st.2.2 + (E.getD j e0).w)) := by
  intro k
  induction k with
  | zero => rintro i st hi ⟨j, h1, h2, _⟩; omega
  | succ k ih =>
    rintro i st hi ⟨j, h1, h2, h3⟩
    unfold inS
    by_cases hc : ((E.getD i e0).a == st.1 && goesB L st.2.2 (E.getD i e0).w (E.getD i e0).b) = true
    · rw [if_pos hc]
      exact ⟨i, Nat.le_refl _, by omega, hc, rfl⟩
    · rw [if_neg hc]
      have hij : i ≠ j := by rintro rfl; exact hc h3
      obtain ⟨j2, g1, g2, g3⟩ := ih (i + 1) st (by omega) ⟨j, by omega, h2, h3⟩
      exact ⟨j2, by omega, g2, g3⟩
theorem getD_in {E : List Ed} {j : Nat} (h : j < E.length) : E.getD j e0 = E[j] := by rw [List.getD_eq_getElem?_getD, List.getElem?_eq_getElem h]; rfl
theorem goes_iff {L : Nat → Int} {sum n : Int} {v : Nat} (h1 : -2147483648 ≤ sum ∧ sum ≤ 2147483648) (h2 : -2097152 ≤ n ∧ n ≤ 2097152) (h3 : L v = INF ∨ (-2147483648 ≤ L v ∧ L v ≤ 2147483648)) : goesB L sum n v = true ↔ L v < INF ∧ sum + n + L v < 0 := by
  have u0 : INF = 1099511627776 := rfl
  unfold goesB
  rw [Bool.and_eq_true, decide_eq_true_eq, decide_eq_true_eq, w64 (n := sum + n) (by omega) (by omega), w64 (by omega) (by omega)]
theorem small_drop {E : List Ed} (hs : SmallW E) (k : Nat) : SmallW (E.drop k) := fun x hx => hs x (List.mem_of_mem_drop hx)
theorem lay_bd2 {a0 : Nat} {tl : List Ed} (hs : SmallW tl) {s : Nat} (h : s ≤ 100) (v : Nat) : lay a0 tl s v = INF ∨ (-2147483648 ≤ lay a0 tl s v ∧ lay a0 tl s v ≤ 2147483648) := by
  rcases lay_bd (a0 := a0) hs s h v with g | g
  · exact .inl g
  · right; omega

theorem outS_ok {E : List Ed} (hs : SmallW E) {first a0 : Nat} : ∀ (k : Nat) (st : Wk), k ≤ 50 → first < E.length → -((100 - (k : Int)) * 2097152) ≤ st.2.2 → st.2.2 ≤ (100 - (k : Int)) * 2097152 →
    lay a0 (E.drop (first + 1)) k st.1 < INF → st.2.2 + lay a0 (E.drop (first + 1)) k st.1 < 0 →
    ∃ js : List Nat, (outS E (lay a0 (E.drop (first + 1))) first k st).2.1 = st.2.1 ++ js.map (fun (j : Nat) => (j : Int)) ∧ js.length = k ∧ (∀ j ∈ js, j < E.length) ∧ walk st.1 a0 (js.map fun j => E.getD j e0) ∧ st.2.2 + esum (js.map fun j => E.getD j e0) < 0 := by
  intro k
  have u0 : INF = 1099511627776 := rfl
  induction k with
  | zero =>
    intro st _ hf b1 b2 h1 h2
    have e : lay a0 (E.drop (first + 1)) 0 st.1 = if st.1 = a0 then 0 else INF := rfl
    rw [e] at h1 h2
    by_cases h : st.1 = a0
    · rw [if_pos h] at h2
      exact ⟨[], by simp [outS], rfl, fun j hj => (by cases hj), h, by simpa [esum] using h2⟩
    · rw [if_neg h] at h1; omega
  | succ k ih =>
    intro st hk hf b1 b2 h1 h2
    have hs2 := small_drop hs (first + 1)
    obtain ⟨x, hx, hxa, hxb, hxe⟩ := lay_step hs2 (by omega) h1
    obtain ⟨q, hq, rfl⟩ := List.getElem_of_mem hx
    rw [List.length_drop] at hq
    rw [List.getElem_drop] at hxa hxb hxe
    have hj0 : first + 1 + q < E.length := by omega
    have cond : ∀ j, j < E.length → (((E.getD j e0).a == st.1 && goesB (lay a0 (E.drop (first + 1)) k) st.2.2 (E.getD j e0).w (E.getD j e0).b) = true ↔ (E.getD j e0).a = st.1 ∧ lay a0 (E.drop (first + 1)) k (E.getD j e0).b < INF ∧ st.2.2 + (E.getD j e0).w + lay a0 (E.drop (first + 1)) k (E.getD j e0).b < 0) := by
      intro j hj
      have hw := hs (E.getD j e0) (by rw [getD_in hj]; exact List.getElem_mem hj)
      rw [Bool.and_eq_true, beq_iff_eq, goes_iff (by omega) hw (lay_bd2 hs2 (by omega) _)]
    obtain ⟨j, g1, g2, g3, g4⟩ := inS_find (E := E) (L := lay a0 (E.drop (first + 1)) k) (E.length - (first + 1)) (first + 1) st (by omega) ⟨first + 1 + q, by omega, hj0, by
      rw [cond _ hj0, getD_in hj0]
      exact ⟨hxa, hxb, by omega⟩⟩
    rw [cond j g2] at g3
    have hw := hs (E.getD j e0) (by rw [getD_in g2]; exact List.getElem_mem g2)
    rw [w64 (by omega) (by omega)] at g4
    obtain ⟨js, i1, i2, i3, i4, i5⟩ := ih ((E.getD j e0).b, st.2.1 ++ [(j : Int)], st.2.2 + (E.getD j e0).w) (by omega) hf (by simp only; omega) (by simp only; omega) g3.2.1 g3.2.2
    refine ⟨j :: js, ?_, by simp [i2], ?_, ?_, ?_⟩
    · unfold outS
      rw [g4, i1]; simp
    · intro x hx
      rcases List.mem_cons.1 hx with rfl | hx
      · exact g2
      · exact i3 x hx
    · exact ⟨g3.1, i4⟩
    · simp only [List.map_cons, esum_cons] at i5 ⊢; omega

theorem cycleS_ok {E : List Ed} (hs : SmallW E) {many first : Nat} (h1 : 1 ≤ many) (h2 : many ≤ 50) (hf : first < E.length) (hne : (cycleS E many first).isEmpty = false) :
    ∃ js : List Nat, cycleS E many first = js.map (fun (j : Nat) => (j : Int)) ∧ js.length = many ∧ (∀ j ∈ js, j < E.length) ∧ ∃ i, walk i i (js.map fun j => E.getD j e0) ∧ esum (js.map fun j => E.getD j e0) < 0 := by
  rw [cycleS_empty] at hne
  have hg : goesB (lay (E.getD first e0).a (E.drop (first + 1)) (many - 1)) (E.getD first e0).w 0 (E.getD first e0).b = true := by simpa using hne
  have hw := hs (E.getD first e0) (by rw [getD_in hf]; exact List.getElem_mem hf)
  have hg2 := hg
  rw [goes_iff (by omega) (by omega) (lay_bd2 (small_drop hs _) (by omega) _)] at hg2
  obtain ⟨js, i1, i2, i3, i4, i5⟩ := outS_ok hs (first := first) (a0 := (E.getD first e0).a) (many - 1) ((E.getD first e0).b, [(first : Int)], (E.getD first e0).w) (by omega) hf (by simp only; omega) (by simp only; omega) hg2.1 (by simp only; omega)
  refine ⟨first :: js, ?_, by simp [i2]; omega, ?_, (E.getD first e0).a, ⟨rfl, i4⟩, ?_⟩
  · unfold cycleS
    rw [if_pos hg, i1]; rfl
  · intro x hx
    rcases List.mem_cons.1 hx with rfl | hx
    · exact hf
    · exact i3 x hx
  · simp only [List.map_cons, esum_cons]; exact i5

theorem cycleS_find {E : List Ed} (hs : SmallW E) (hab : ∀ e ∈ E, e.a ≠ e.b) {j : Nat} {cs : List Ed} (hw : walk j j cs) (hn : esum cs < 0) (hd : (cs.map Ed.a).Nodup) (hm : ∀ e ∈ cs, e ∈ E) (hl : cs.length ≤ 50) :
    2 ≤ cs.length ∧ ∃ first, first < E.length ∧ (cycleS E cs.length first).isEmpty = false := by
  classical
  have hne : ∃ y, y ∈ cs := by
    cases cs with
    | nil => simp [esum] at hn
    | cons y _ => exact ⟨y, List.mem_cons_self ..⟩
  obtain ⟨y, hy⟩ := hne
  have hex : ∃ x ∈ E, decide (x ∈ cs) = true := ⟨y, hm y hy, by simpa using hy⟩
  have hlt := List.findIdx_lt_length_of_exists hex
  have hx0 : decide (E[E.findIdx fun x => decide (x ∈ cs)] ∈ cs) = true := List.findIdx_getElem (p := fun x => decide (x ∈ cs)) (w := hlt)
  have hmin : ∀ q, (hq : q < E.length) → E[q] ∈ cs → E.findIdx (fun x => decide (x ∈ cs)) ≤ q := by
    intro q hq hqc
    refine Nat.le_of_not_lt fun h => ?_
    have := List.not_of_lt_findIdx (p := fun x => decide (x ∈ cs)) h
    simp at this
    exact this hqc
  generalize E.findIdx (fun x => decide (x ∈ cs)) = first at hlt hx0 hmin
  have hx : E[first] ∈ cs := by simpa using hx0
  obtain ⟨x, hxe⟩ : ∃ x, E[first] = x := ⟨_, rfl⟩
  rw [hxe] at hx
  obtain ⟨p, r, rfl⟩ := List.append_of_mem hx
  obtain ⟨k, w1, w2, w3⟩ := walk_app.1 hw
  subst w2
  have hwalk : walk x.b x.a (r ++ p) := walk_app.2 ⟨j, w3, w1⟩
  have hsum : esum (p ++ x :: r) = x.w + esum (r ++ p) := by simp only [esum_app, esum_cons]; omega
  have hxE : x ∈ E := hm x hx
  have hwx := hs x hxE
  have hmem : ∀ e ∈ r ++ p, e ∈ E.drop (first + 1) := by
    intro e he
    have hec : e ∈ p ++ x :: r := by
      rcases List.mem_append.1 he with h | h
      · exact List.mem_append_right _ (List.mem_cons_of_mem _ h)
      · exact List.mem_append_left _ h
    have hne : e.a ≠ x.a := by
      intro h
      rw [List.map_append, List.map_cons, List.nodup_append] at hd
      obtain ⟨_, d2, d3⟩ := hd
      rw [List.nodup_cons] at d2
      rcases List.mem_append.1 he with g | g
      · exact d2.1 (h ▸ List.mem_map_of_mem g)
      · exact d3 e.a (List.mem_map_of_mem g) x.a (List.mem_cons_self ..) h
    obtain ⟨q, hq, rfl⟩ := List.getElem_of_mem (hm e hec)
    have h1 := hmin q hq hec
    have h2 : q ≠ first := by
      rintro rfl
      exact hne (by rw [hxe])
    have h3 : q - (first + 1) < (E.drop (first + 1)).length := by rw [List.length_drop]; omega
    have h4 : (E.drop (first + 1))[q - (first + 1)] = E[q] := by
      rw [List.getElem_drop]; congr 1; omega
    rw [← h4]
    exact List.getElem_mem h3
  have hlen : (p ++ x :: r).length = (r ++ p).length + 1 := by simp; omega
  rw [hlen] at hl ⊢
  refine ⟨?_, first, hlt, ?_⟩
  · refine Nat.succ_le_succ (Nat.pos_of_ne_zero fun h => ?_)
    have : r ++ p = [] := List.eq_nil_of_length_eq_zero h
    rw [this] at hwalk
    exact hab x hxE hwalk.symm
  · rw [cycleS_empty]
    have hgd : E.getD first ⟨0, 0, 0⟩ = x := (getD_in hlt).trans hxe
    rw [hgd, Nat.add_sub_cancel]
    obtain ⟨l1, l2⟩ := lay_le (a0 := x.a) (small_drop hs (first + 1)) (r ++ p) x.b (by omega) hwalk hmem
    have := (goes_iff (L := lay x.a (E.drop (first + 1)) (r ++ p).length) (sum := x.w) (n := 0) (v := x.b) (by omega) (by omega) (lay_bd2 (small_drop hs _) (by omega) _)).2 ⟨l1, by omega⟩
    rw [this]; rfl

theorem nodup_len {α : Type} : ∀ (l s : List α), l.Nodup → (∀ x ∈ l, x ∈ s) → l.length ≤ s.length := by
  intro l
  induction l with
  | nil => intro s _ _; simp
  | cons x l ih =>
    intro s hd hm
    rw [List.nodup_cons] at hd
    obtain ⟨a, b, rfl⟩ := List.append_of_mem (hm x (List.mem_cons_self ..))
    have := ih (a ++ b) hd.2 fun y hy => by
      have hy2 := hm y (List.mem_cons_of_mem _ hy)
      have hyx : y ≠ x := by rintro rfl; exact hd.1 hy
      rcases List.mem_append.1 hy2 with h | h
      · exact List.mem_append_left _ h
      · rcases List.mem_cons.1 h with h | h
        · exact (hyx h).elim
        · exact List.mem_append_right _ h
    simp only [List.length_append, List.length_cons] at this ⊢
    omega

end Go.Proofs.Ytjniiejgccdhiaa
