/- Package bounds: what filling gives keeps the differences. No condition. -/
import Derived.Test.YtjniiejgccdhiaaBoundsR
namespace Go.Proofs.Ytjniiejgccdhiaa
open Go.Sim

/-- What the proofs know of a closure's numbers. -/
structure Small (m : Nat) (G : Nat → Nat → Int) : Prop where
  m2 : 2 ≤ m
  m6 : m ≤ 6
  lo : ∀ i k, i < m → k < m → -2097152 ≤ G i k
  hi : ∀ i k, i < m → k < m → G i k ≤ INF
  fin : ∀ i k, i < m → k < m → G i k < INF → G i k ≤ 2097152
  diag : ∀ i, i < m → 0 ≤ G i i

/-- The places that a value at place k is measured against. -/
def Seen (m k i : Nat) : Prop := i < k ∨ i = m - 1
def vv (m : Nat) (vs : List Int) (i : Nat) : Int := if i = m - 1 then 0 else vs.getD i 0
structure Kept (m : Nat) (G : Nat → Nat → Int) (B : Int) (vs : List Int) : Prop where
  b0 : 0 ≤ B
  b1 : B ≤ 1000000000
  bd : ∀ x ∈ vs, -B ≤ x ∧ x ≤ B
  ok : ∀ i j, Seen m vs.length i → Seen m vs.length j → G i j < INF → vv m vs i ≤ vv m vs j + G i j

theorem at2_tab {m : Nat} {G : Nat → Nat → Int} {i k : Nat} (hi : i < m) (hk : k < m) : at2 (tab m G) i k = G i k := by
  unfold at2 tab rowL
  rw [List.getD_eq_getElem?_getD, List.getD_eq_getElem?_getD]
  simp [hi, hk]
theorem seen_of {m : Nat} {G : Nat → Nat → Int} {vs : List Int} (h : vs.length + 1 < m) {j : Nat} (hj : j < vs.length + 1) : Seen m vs.length (rowOf (tab m G) vs j) ∧ rowOf (tab m G) vs j < m ∧ valOf vs j = vv m vs (rowOf (tab m G) vs j) := by
  unfold rowOf valOf vv Seen
  rw [tab_len]
  by_cases h1 : j = vs.length
  · rw [if_pos h1, if_pos rfl]
    refine ⟨.inr rfl, by omega, ?_⟩
    rw [h1, List.getD_eq_getElem?_getD]; simp
  · rw [if_neg h1, if_neg (by omega)]
    refine ⟨.inl (by omega), by omega, ?_⟩
    rw [List.getD_eq_getElem?_getD, List.getD_eq_getElem?_getD, List.getElem?_append_left (by omega)]
theorem of_seen {m : Nat} {G : Nat → Nat → Int} {vs : List Int} (h : vs.length + 1 < m) {i : Nat} (hi : Seen m vs.length i) : ∃ j, j < vs.length + 1 ∧ rowOf (tab m G) vs j = i := by
  unfold rowOf
  rw [tab_len]
  rcases hi with h1 | h1
  · exact ⟨i, by omega, if_neg (by omega)⟩
  · exact ⟨vs.length, by omega, by rw [if_pos rfl, h1]⟩
theorem loF_in {c : List (List Int)} {vs : List Int} {M j : Nat} (hj : j < M) (hf : at2 c (rowOf c vs j) vs.length < 1099511627776) : IntKind.i64.wrap (valOf vs j - at2 c (rowOf c vs j) vs.length) ∈ loF c vs M := by
  induction M with
  | zero => omega
  | succ M ih =>
    rw [loF_succ]
    by_cases h : j = M
    · subst h; rw [if_pos hf]; exact List.mem_append_right _ (List.mem_singleton.2 rfl)
    · exact List.mem_append_left _ (ih (by omega))
theorem hiF_in {c : List (List Int)} {vs : List Int} {M j : Nat} (hj : j < M) (hf : at2 c vs.length (rowOf c vs j) < 1099511627776) : IntKind.i64.wrap (valOf vs j + at2 c vs.length (rowOf c vs j)) ∈ hiF c vs M := by
  induction M with
  | zero => omega
  | succ M ih =>
    rw [hiF_succ]
    by_cases h : j = M
    · subst h; rw [if_pos hf]; exact List.mem_append_right _ (List.mem_singleton.2 rfl)
    · exact List.mem_append_left _ (ih (by omega))

theorem fold_max : ∀ (l : List Int) (x : Int), (∀ y ∈ x :: l, y ≤ l.foldl imax x) ∧ l.foldl imax x ∈ x :: l := by
  intro l
  induction l with
  | nil => intro x; exact ⟨fun y hy => by obtain rfl := List.mem_singleton.1 hy; exact Int.le_refl _, List.mem_cons_self ..⟩
  | cons z l ih =>
    intro x
    rw [List.foldl_cons]
    obtain ⟨h1, h2⟩ := ih (imax x z)
    have hm : x ≤ imax x z ∧ z ≤ imax x z := by unfold imax; split <;> omega
    have h0 := h1 _ (List.mem_cons_self ..)
    refine ⟨fun y hy => ?_, ?_⟩
    · rcases List.mem_cons.1 hy with rfl | hy
      · omega
      · rcases List.mem_cons.1 hy with rfl | hy
        · omega
        · exact h1 y (List.mem_cons_of_mem _ hy)
    · rcases List.mem_cons.1 h2 with h | h
      · rw [h]
        rcases imax_or x z with e | e <;> rw [e] <;> simp
      · exact List.mem_cons_of_mem _ (List.mem_cons_of_mem _ h)
theorem fold_min : ∀ (l : List Int) (x : Int), (∀ y ∈ x :: l, l.foldl imin x ≤ y) ∧ l.foldl imin x ∈ x :: l := by
  intro l
  induction l with
  | nil => intro x; exact ⟨fun y hy => by obtain rfl := List.mem_singleton.1 hy; exact Int.le_refl _, List.mem_cons_self ..⟩
  | cons z l ih =>
    intro x
    rw [List.foldl_cons]
    obtain ⟨h1, h2⟩ := ih (imin x z)
    have hm : imin x z ≤ x ∧ imin x z ≤ z := by unfold imin; split <;> omega
    have h0 := h1 _ (List.mem_cons_self ..)
    refine ⟨fun y hy => ?_, ?_⟩
    · rcases List.mem_cons.1 hy with rfl | hy
      · omega
      · rcases List.mem_cons.1 hy with rfl | hy
        · omega
        · exact h1 y (List.mem_cons_of_mem _ hy)
    · rcases List.mem_cons.1 h2 with h | h
      · rw [h]
        rcases imin_or x z with e | e <;> rw [e] <;> simp
      · exact List.mem_cons_of_mem _ (List.mem_cons_of_mem _ h)
theorem best_max {d : Int} {l : List Int} (h : l ≠ []) : (∀ y ∈ l, y ≤ (best imax d l).2) ∧ (best imax d l).2 ∈ l := by
  cases l with
  | nil => exact (h rfl).elim
  | cons x l => rw [best_cons]; exact fold_max l x
theorem best_min {d : Int} {l : List Int} (h : l ≠ []) : (∀ y ∈ l, (best imin d l).2 ≤ y) ∧ (best imin d l).2 ∈ l := by
  cases l with
  | nil => exact (h rfl).elim
  | cons x l => rw [best_cons]; exact fold_min l x

/-- The ends of a range, of a small closure and values that keep it so far. -/
theorem rng_lo {m : Nat} {G : Nat → Nat → Int} {B : Int} (hG : Small m G) {vs : List Int} (hk : vs.length + 1 < m) (hK : Kept m G B vs) :
    (∀ i, Seen m vs.length i → G i vs.length < INF → vv m vs i - G i vs.length ≤ (loB (tab m G) vs (vs.length + 1)).2) ∧
    ((∃ i, Seen m vs.length i ∧ G i vs.length < INF) → -(B + 2097152) ≤ (loB (tab m G) vs (vs.length + 1)).2 ∧ (loB (tab m G) vs (vs.length + 1)).2 ≤ B + 2097152) ∧
    ((¬ ∃ i, Seen m vs.length i ∧ G i vs.length < INF) → (loB (tab m G) vs (vs.length + 1)).2 = -1099511627776) ∧
    ((∃ i, Seen m vs.length i ∧ G i vs.length < INF) → ∃ i, Seen m vs.length i ∧ G i vs.length < INF ∧ (loB (tab m G) vs (vs.length + 1)).2 = vv m vs i - G i vs.length) := by
  have m6 := hG.m6
  have u0 : INF = 1099511627776 := rfl
  have hb0 := hK.b0
  have hb1 := hK.b1
  have hv : ∀ i, -B ≤ vv m vs i ∧ vv m vs i ≤ B := by
    intro i
    unfold vv
    split
    · omega
    · rw [List.getD_eq_getElem?_getD]
      cases h : vs[i]? with
      | none => simp only [Option.getD_none]; omega
      | some x => exact hK.bd x (List.mem_of_getElem? h)
  have val : ∀ j, j < vs.length + 1 → at2 (tab m G) (rowOf (tab m G) vs j) vs.length = G (rowOf (tab m G) vs j) vs.length := fun j hj => at2_tab (seen_of hk hj).2.1 (by omega)
  have wr : ∀ j, j < vs.length + 1 → G (rowOf (tab m G) vs j) vs.length < INF → IntKind.i64.wrap (valOf vs j - G (rowOf (tab m G) vs j) vs.length) = vv m vs (rowOf (tab m G) vs j) - G (rowOf (tab m G) vs j) vs.length := by
    intro j hj hf
    have h1 := seen_of (G := G) hk hj
    have h2 := hG.lo _ vs.length h1.2.1 (by omega)
    have h3 := hv (rowOf (tab m G) vs j)
    rw [h1.2.2, w64 (by omega) (by omega)]
  have mem : ∀ i, Seen m vs.length i → G i vs.length < INF → vv m vs i - G i vs.length ∈ loF (tab m G) vs (vs.length + 1) := by
    intro i hi hf
    obtain ⟨j, hj, rfl⟩ := of_seen (G := G) hk hi
    have := loF_in (c := tab m G) (vs := vs) (M := vs.length + 1) hj (by rw [val j hj]; exact hf)
    rw [val j hj, wr j hj hf] at this
    exact this
  refine ⟨fun i hi hf => (best_max (List.ne_nil_of_mem (mem i hi hf))).1 _ (mem i hi hf), ?_, ?_, ?_⟩
  · rintro ⟨i, hi, hf⟩
    have hb := (best_max (d := -1099511627776) (List.ne_nil_of_mem (mem i hi hf))).2
    obtain ⟨j, hj, hfj, e⟩ := loF_mem hb
    rw [val j hj] at hfj e
    rw [wr j hj hfj] at e
    have h1 := seen_of (G := G) hk hj
    have h2 := hG.lo _ vs.length h1.2.1 (show vs.length < m by omega)
    have h3 := hG.fin _ vs.length h1.2.1 (show vs.length < m by omega) hfj
    have h4 := hv (rowOf (tab m G) vs j)
    unfold loB
    rw [e]; omega
  · intro hno
    have : loF (tab m G) vs (vs.length + 1) = [] := by
      cases h : loF (tab m G) vs (vs.length + 1) with
      | nil => rfl
      | cons x l =>
        obtain ⟨j, hj, hfj, _⟩ := loF_mem (c := tab m G) (vs := vs) (M := vs.length + 1) (x := x) (by rw [h]; exact List.mem_cons_self ..)
        rw [val j hj] at hfj
        exact (hno ⟨_, (seen_of hk hj).1, hfj⟩).elim
    unfold loB
    rw [this]; rfl
  · rintro ⟨i, hi, hf⟩
    obtain ⟨j, hj, hfj, e⟩ := loF_mem (best_max (d := -1099511627776) (List.ne_nil_of_mem (mem i hi hf))).2
    rw [val j hj] at hfj e
    rw [wr j hj hfj] at e
    exact ⟨_, (seen_of hk hj).1, hfj, e⟩

theorem rng_hi {m : Nat} {G : Nat → Nat → Int} {B : Int} (hG : Small m G) {vs : List Int} (hk : vs.length + 1 < m) (hK : Kept m G B vs) :
    (∀ i, Seen m vs.length i → G vs.length i < INF → (hiB (tab m G) vs (vs.length + 1)).2 ≤ vv m vs i + G vs.length i) ∧
    ((∃ i, Seen m vs.length i ∧ G vs.length i < INF) → -(B + 2097152) ≤ (hiB (tab m G) vs (vs.length + 1)).2 ∧ (hiB (tab m G) vs (vs.length + 1)).2 ≤ B + 2097152) ∧
    ((¬ ∃ i, Seen m vs.length i ∧ G vs.length i < INF) → (hiB (tab m G) vs (vs.length + 1)).2 = 1099511627776) ∧
    ((∃ i, Seen m vs.length i ∧ G vs.length i < INF) → ∃ i, Seen m vs.length i ∧ G vs.length i < INF ∧ (hiB (tab m G) vs (vs.length + 1)).2 = vv m vs i + G vs.length i) := by
  have m6 := hG.m6
  have u0 : INF = 1099511627776 := rfl
  have hb0 := hK.b0
  have hb1 := hK.b1
  have hv : ∀ i, -B ≤ vv m vs i ∧ vv m vs i ≤ B := by
    intro i
    unfold vv
    split
    · omega
    · rw [List.getD_eq_getElem?_getD]
      cases h : vs[i]? with
      | none => simp only [Option.getD_none]; omega
      | some x => exact hK.bd x (List.mem_of_getElem? h)
  have val : ∀ j, j < vs.length + 1 → at2 (tab m G) vs.length (rowOf (tab m G) vs j) = G vs.length (rowOf (tab m G) vs j) := fun j hj => at2_tab (by omega) (seen_of hk hj).2.1
  have wr : ∀ j, j < vs.length + 1 → G vs.length (rowOf (tab m G) vs j) < INF → IntKind.i64.wrap (valOf vs j + G vs.length (rowOf (tab m G) vs j)) = vv m vs (rowOf (tab m G) vs j) + G vs.length (rowOf (tab m G) vs j) := by
    intro j hj hf
    have h1 := seen_of (G := G) hk hj
    have h2 := hG.lo vs.length _ (show vs.length < m by omega) h1.2.1
    have h3 := hv (rowOf (tab m G) vs j)
    rw [h1.2.2, w64 (by omega) (by omega)]
  have mem : ∀ i, Seen m vs.length i → G vs.length i < INF → vv m vs i + G vs.length i ∈ hiF (tab m G) vs (vs.length + 1) := by
    intro i hi hf
    obtain ⟨j, hj, rfl⟩ := of_seen (G := G) hk hi
    have := hiF_in (c := tab m G) (vs := vs) (M := vs.length + 1) hj (by rw [val j hj]; exact hf)
    rw [val j hj, wr j hj hf] at this
    exact this
  refine ⟨fun i hi hf => (best_min (List.ne_nil_of_mem (mem i hi hf))).1 _ (mem i hi hf), ?_, ?_, ?_⟩
  · rintro ⟨i, hi, hf⟩
    have hb := (best_min (d := 1099511627776) (List.ne_nil_of_mem (mem i hi hf))).2
    obtain ⟨j, hj, hfj, e⟩ := hiF_mem hb
    rw [val j hj] at hfj e
    rw [wr j hj hfj] at e
    have h1 := seen_of (G := G) hk hj
    have h2 := hG.lo vs.length _ (show vs.length < m by omega) h1.2.1
    have h3 := hG.fin vs.length _ (show vs.length < m by omega) h1.2.1 hfj
    have h4 := hv (rowOf (tab m G) vs j)
    unfold hiB
    rw [e]; omega
  · intro hno
    have : hiF (tab m G) vs (vs.length + 1) = [] := by
      cases h : hiF (tab m G) vs (vs.length + 1) with
      | nil => rfl
      | cons x l =>
        obtain ⟨j, hj, hfj, _⟩ := hiF_mem (c := tab m G) (vs := vs) (M := vs.length + 1) (x := x) (by rw [h]; exact List.mem_cons_self ..)
        rw [val j hj] at hfj
        exact (hno ⟨_, (seen_of hk hj).1, hfj⟩).elim
    unfold hiB
    rw [this]; rfl
  · rintro ⟨i, hi, hf⟩
    obtain ⟨j, hj, hfj, e⟩ := hiF_mem (best_min (d := 1099511627776) (List.ne_nil_of_mem (mem i hi hf))).2
    rw [val j hj] at hfj e
    rw [wr j hj hfj] at e
    exact ⟨_, (seen_of hk hj).1, hfj, e⟩

end Go.Proofs.Ytjniiejgccdhiaa
