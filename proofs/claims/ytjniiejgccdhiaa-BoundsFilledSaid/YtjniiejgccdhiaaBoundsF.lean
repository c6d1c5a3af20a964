/- Shortest ways in a table: all rounds; the table is one. No condition. -/
import Derived.Test.YtjniiejgccdhiaaBoundsE
namespace Go.Proofs.Ytjniiejgccdhiaa
open Go.Sim

structure GridOk (E : List Ed) (m : Nat) (B U : Int) (G : Nat → Nat → Int) : Prop where
  row : ∀ i, i < m → RowOk E m B U i (G i)
  diag : ∀ i, i < m → G i i ≤ 0

def fw (j : Nat) (G : Nat → Nat → Int) (i k : Nat) : Int := if G i j < INF ∧ G j k < INF then imin (G i k) (G i j + G j k) else G i k

/-- What a round of shortest ways must do. -/
structure PhOk (E : List Ed) (m : Nat) (ph : Nat → (Nat → Nat → Int) → Nat → Nat → Int) : Prop where
  ok : ∀ j B U G, j < m → 0 ≤ B → 0 ≤ U → GridOk E m B U G → GridOk E m (8 * B) (2 * U) (ph j G)
  le : ∀ j B U G, j < m → 0 ≤ B → 0 ≤ U → GridOk E m B U G → ∀ i k, i < m → k < m → ph j G i k ≤ G i k
  exact : ∀ j B U G, j < m → 0 ≤ B → 0 ≤ U → GridOk E m B U G → G j j = 0 → ∀ i k, i < m → k < m → ph j G i k = fw j G i k

def phP (m j : Nat) (G : Nat → Nat → Int) (i : Nat) : Nat → Int := passT j (G j) (G i) m
def phR (m j : Nat) (G : Nat → Nat → Int) (i : Nat) : Nat → Int := if i < j then passT j (G j) (G i) m else if i = j then passS j (G j) m else passT j (passS j (G j) m) (G i) m

theorem phP_ok (E : List Ed) (m : Nat) : PhOk E m (fun j G => phP m j G) := by
  refine ⟨fun j B U G hj hB hU h => ⟨fun i hi => ?_, fun i hi => ?_⟩, fun j B U G hj hB hU h i k hi hk => ?_, fun j B U G hj hB hU h h0 i k hi hk => ?_⟩
  · exact (passT_ok hj (h.row i hi) (h.row j hj) hB hB hU m (Nat.le_refl _)).1.mono (by omega) (by omega)
  · have := (passT_ok hj (h.row i hi) (h.row j hj) hB hB hU m (Nat.le_refl _)).2.1 i hi
    have := h.diag i hi
    show passT j (G j) (G i) m i ≤ 0
    omega
  · exact (passT_ok hj (h.row i hi) (h.row j hj) hB hB hU m (Nat.le_refl _)).2.1 k hk
  · show passT j (G j) (G i) m k = _
    rw [passT_exact hj h0 (h.row i hi).hi m (Nat.le_refl _) k hk]
    unfold fw
    simp only [hk, true_and]

theorem phR_ok (E : List Ed) (m : Nat) : PhOk E m (fun j G => phR m j G) := by
  have key : ∀ j B U G, j < m → 0 ≤ B → 0 ≤ U → GridOk E m B U G → ∀ i, i < m → RowOk E m (8 * B) (2 * U) i (phR m j G i) ∧ ∀ k, k < m → phR m j G i k ≤ G i k := by
    intro j B U G hj hB hU h i hi
    obtain ⟨s1, s2, _, _, _, _⟩ := passS_ok hj (h.row j hj) (h.diag j hj) hB hU m (Nat.le_refl _)
    unfold phR
    split
    · have := passT_ok hj (h.row i hi) (h.row j hj) hB hB hU m (Nat.le_refl _)
      exact ⟨this.1.mono (by omega) (by omega), this.2.1⟩
    · split
      · rename_i _ hij
        subst hij
        exact ⟨s1.mono (by omega) (by omega), s2⟩
      · have := passT_ok hj (h.row i hi) s1 hB (by omega) hU m (Nat.le_refl _)
        exact ⟨this.1.mono (by omega) (by omega), this.2.1⟩
  refine ⟨fun j B U G hj hB hU h => ⟨fun i hi => (key j B U G hj hB hU h i hi).1, fun i hi => ?_⟩, fun j B U G hj hB hU h i k hi hk => (key j B U G hj hB hU h i hi).2 k hk, fun j B U G hj hB hU h h0 i k hi hk => ?_⟩
  · have := (key j B U G hj hB hU h i hi).2 i hi
    have := h.diag i hi
    show phR m j G i i ≤ 0
    omega
  · show phR m j G i k = _
    unfold phR
    rw [passS_exact h0]
    have e := passT_exact hj h0 (h.row i hi).hi m (Nat.le_refl _) k hk
    split
    · rw [e]; unfold fw; simp only [hk, true_and]
    · split
      · rename_i _ hij
        subst hij
        unfold fw
        split
        · rw [h0, Int.zero_add]; unfold imin; split <;> rfl
        · rfl
      · rw [e]; unfold fw; simp only [hk, true_and]

def iters (ph : Nat → (Nat → Nat → Int) → Nat → Nat → Int) (G : Nat → Nat → Int) (n : Nat) : Nat → Nat → Int := (List.range n).foldl (fun H j => ph j H) G
theorem iters_succ (ph : Nat → (Nat → Nat → Int) → Nat → Nat → Int) (G : Nat → Nat → Int) (n : Nat) : iters ph G (n + 1) = ph n (iters ph G n) := by
  unfold iters; rw [List.range_succ, List.foldl_append]; rfl

def Tri (m p : Nat) (G : Nat → Nat → Int) : Prop := ∀ i k, i < m → k < m → G i p < INF → G p k < INF → G i k ≤ G i p + G p k

theorem fw_tri {m j p : Nat} {G H : Nat → Nat → Int} {U : Int} (hj : j < m) (hp : p < m) (hU : 2 * U < INF) (hup : ∀ i k, i < m → k < m → G i k < INF → G i k ≤ U) (h0 : G j j = 0) (hH : ∀ i k, i < m → k < m → H i k = fw j G i k) (ht : Tri m p G) : Tri m p H := by
  have le : ∀ i k, i < m → k < m → H i k ≤ G i k ∧ (G i j < INF → G j k < INF → H i k ≤ G i j + G j k) ∧ (H i k = G i k ∨ (G i j < INF ∧ G j k < INF ∧ H i k = G i j + G j k)) := by
    intro i k hi hk
    rw [hH i k hi hk]
    unfold fw
    obtain ⟨m1, m2, m3⟩ := imin_le (G i k) (G i j + G j k)
    by_cases hc : G i j < INF ∧ G j k < INF
    · rw [if_pos hc]
      exact ⟨m1, fun _ _ => m2, m3.imp id (fun h => ⟨hc.1, hc.2, h⟩)⟩
    · rw [if_neg hc]
      exact ⟨Int.le_refl _, fun a b => (hc ⟨a, b⟩).elim, .inl rfl⟩
  intro i k hi hk h1 h2
  obtain ⟨a1, a2, _⟩ := le i k hi hk
  rcases (le i p hi hp).2.2 with b | ⟨b1, b2, b3⟩ <;> rcases (le p k hp hk).2.2 with c | ⟨c1, c2, c3⟩
  · have := ht i k hi hk (by omega) (by omega)
    omega
  · have t := ht i j hi hj (by omega) c1
    have u1 := hup i p hi hp (by omega)
    have u2 := hup p j hp hj c1
    have := a2 (by unfold INF at *; omega) c2
    omega
  · have t := ht j k hj hk b2 (by omega)
    have u1 := hup j p hj hp b2
    have u2 := hup p k hp hk (by omega)
    have := a2 b1 (by unfold INF at *; omega)
    omega
  · have t := ht j j hj hj b2 c1
    have := a2 b1 c2
    omega
theorem fw_trij {m j : Nat} {G H : Nat → Nat → Int} (hj : j < m) (h0 : G j j = 0) (hH : ∀ i k, i < m → k < m → H i k = fw j G i k) : Tri m j H := by
  intro i k hi hk h1 h2
  have e1 : H i j = G i j := by
    rw [hH i j hi hj]; unfold fw
    split
    · rw [h0, Int.add_zero]; unfold imin; split <;> rfl
    · rfl
  have e2 : H j k = G j k := by
    rw [hH j k hj hk]; unfold fw
    split
    · rw [h0, Int.zero_add]; unfold imin; split <;> rfl
    · rfl
  rw [e1] at h1 ⊢
  rw [e2] at h2 ⊢
  rw [hH i k hi hk]
  unfold fw
  rw [if_pos ⟨h1, h2⟩]
  exact (imin_le _ _).2.1

/-- What a finished table says. -/
structure Fin (E : List Ed) (m : Nat) (G : Nat → Nat → Int) : Prop where
  hi : ∀ i k, i < m → k < m → G i k ≤ INF
  up : ∀ i k, i < m → k < m → G i k < INF → G i k ≤ 4294967296
  way : ∀ i k, i < m → k < m → G i k < INF → Way E i k (G i k)
  diag : ∀ i, i < m → G i i ≤ 0
  tri : (∀ i, i < m → 0 ≤ G i i) → ∀ p, p < m → Tri m p G
  edge : ∀ e ∈ E, G e.a e.b ≤ e.w

theorem pow_bound : ∀ n, n ≤ 11 → (0 : Int) ≤ 8 ^ n * 2097152 ∧ (8 : Int) ^ n * 2097152 ≤ 18014398509481984 ∧ (0 : Int) ≤ 2 ^ n * 2097152 ∧ (2 : Int) ^ n * 2097152 ≤ 4294967296 := by decide
theorem iters_grid {E : List Ed} {m : Nat} {ph : Nat → (Nat → Nat → Int) → Nat → Nat → Int} (hph : PhOk E m ph) {G : Nat → Nat → Int} (h : GridOk E m 2097152 2097152 G) (hm : m ≤ 11) :
    ∀ n, n ≤ m → GridOk E m (8 ^ n * 2097152) (2 ^ n * 2097152) (iters ph G n) := by
  intro n
  induction n with
  | zero => intro _; simpa [iters] using h
  | succ n ih =>
    intro hn
    have hb := pow_bound n (by omega)
    rw [iters_succ]
    have := hph.ok n _ _ _ (by omega) hb.1 hb.2.2.1 (ih (by omega))
    have e1 : (8 : Int) ^ (n + 1) * 2097152 = 8 * (8 ^ n * 2097152) := by rw [Int.pow_succ]; omega
    have e2 : (2 : Int) ^ (n + 1) * 2097152 = 2 * (2 ^ n * 2097152) := by rw [Int.pow_succ]; omega
    rw [e1, e2]; exact this
theorem iters_le {E : List Ed} {m : Nat} {ph : Nat → (Nat → Nat → Int) → Nat → Nat → Int} (hph : PhOk E m ph) {G : Nat → Nat → Int} (h : GridOk E m 2097152 2097152 G) (hm : m ≤ 11) {i k : Nat} (hi : i < m) (hk : k < m) :
    ∀ d n, n + d ≤ m → iters ph G (n + d) i k ≤ iters ph G n i k := by
  intro d
  induction d with
  | zero => intro n _; exact Int.le_refl _
  | succ d ih =>
    intro n hn
    have h1 := ih n (by omega)
    have hb := pow_bound (n + d) (by omega)
    have h2 := hph.le (n + d) _ _ _ (by omega) hb.1 hb.2.2.1 (iters_grid hph h hm (n + d) (by omega)) i k hi hk
    rw [← Nat.add_assoc, iters_succ]
    omega
theorem iters_fin {E : List Ed} {m : Nat} {ph : Nat → (Nat → Nat → Int) → Nat → Nat → Int} (hph : PhOk E m ph) {G : Nat → Nat → Int} (h : GridOk E m 2097152 2097152 G) (hm : m ≤ 11) (hE : ∀ e ∈ E, e.a < m ∧ e.b < m ∧ G e.a e.b ≤ e.w) : Fin E m (iters ph G m) := by
  have hg := iters_grid hph h hm m (Nat.le_refl _)
  have hb := pow_bound m hm
  refine ⟨fun i k hi hk => (hg.row i hi).hi k hk, fun i k hi hk hf => by have := (hg.row i hi).up k hk hf; omega, fun i k hi hk hf => (hg.row i hi).way k hk hf, hg.diag, fun hn => ?_, fun e he => ?_⟩
  · have key : ∀ n, n ≤ m → ∀ p, p < n → Tri m p (iters ph G n) := by
      intro n
      induction n with
      | zero => intro _ p hp; omega
      | succ n ih =>
        intro hnm p hp
        have hgn := iters_grid hph h hm n (by omega)
        have hbn := pow_bound n (by omega)
        have h0 : iters ph G n n n = 0 := by
          have h1 := hgn.diag n (by omega)
          have h2 := iters_le hph h hm (i := n) (k := n) (by omega) (by omega) (m - n) n (by omega)
          have h3 := hn n (by omega)
          rw [show n + (m - n) = m by omega] at h2
          omega
        have hH : ∀ i k, i < m → k < m → iters ph G (n + 1) i k = fw n (iters ph G n) i k := by
          intro i k hi hk
          rw [iters_succ]
          exact hph.exact n _ _ _ (by omega) hbn.1 hbn.2.2.1 hgn h0 i k hi hk
        by_cases hpn : p = n
        · subst hpn; exact fw_trij (by omega) h0 hH
        · exact fw_tri (U := 4294967296) (by omega) (by omega) (by decide) (fun i k hi hk hf => by have := (hgn.row i hi).up k hk hf; omega) h0 hH (ih (by omega) p (by omega))
    exact key m (Nat.le_refl _)
  · obtain ⟨h1, h2, h3⟩ := hE e he
    have := iters_le hph h hm h1 h2 m 0 (by omega)
    rw [Nat.zero_add] at this
    have e0 : iters ph G 0 = G := rfl
    rw [e0] at this
    omega

theorem way_le {E : List Ed} {m : Nat} {G : Nat → Nat → Int} (hf : Fin E m G) (hn : ∀ i, i < m → 0 ≤ G i i) (hE : ∀ e ∈ E, e.a < m ∧ e.b < m ∧ e.w ≤ 2097152) {i k : Nat} {w : Int} (h : Way E i k w) : i < m → k < m → G i k < INF ∧ G i k ≤ w := by
  induction h with
  | nil i =>
    intro hi _
    have := hf.diag i hi
    unfold INF; omega
  | @cons e k w he _ ih =>
    intro hi hk
    obtain ⟨a1, a2, a3⟩ := hE e he
    obtain ⟨h1, h2⟩ := ih a2 hk
    have h3 := hf.edge e he
    have h4 : G e.a e.b < INF := by unfold INF; omega
    have h5 := hf.tri hn e.b a2 e.a k a1 hk h4 h1
    have h6 := hf.up e.a e.b a1 a2 h4
    have h7 := hf.up e.b k a2 hk h1
    refine ⟨?_, by omega⟩
    unfold INF at *; omega

/-- There is one finished table, if no way back is negative; and if one says that there is such a way, all do. -/
theorem fin_neg {E : List Ed} {m : Nat} {G H : Nat → Nat → Int} (hf : Fin E m G) (hg : Fin E m H) (hE : ∀ e ∈ E, e.a < m ∧ e.b < m ∧ e.w ≤ 2097152) (hn : ∀ i, i < m → 0 ≤ G i i) : ∀ i, i < m → 0 ≤ H i i := by
  intro i hi
  have h1 := hg.diag i hi
  have h2 := hg.way i i hi hi (by unfold INF; omega)
  have h3 := (way_le hf hn hE h2 hi hi).2
  have h4 := hn i hi
  omega
theorem fin_eq {E : List Ed} {m : Nat} {G H : Nat → Nat → Int} (hf : Fin E m G) (hg : Fin E m H) (hE : ∀ e ∈ E, e.a < m ∧ e.b < m ∧ e.w ≤ 2097152) (hn : ∀ i, i < m → 0 ≤ G i i) : ∀ i k, i < m → k < m → G i k = H i k := by
  have hn2 := fin_neg hf hg hE hn
  intro i k hi hk
  by_cases h1 : G i k < INF
  · obtain ⟨h2, h3⟩ := way_le hg hn2 hE (hf.way i k hi hk h1) hi hk
    have h4 := (way_le hf hn hE (hg.way i k hi hk h2) hi hk).2
    omega
  · by_cases h2 : H i k < INF
    · exact (h1 (way_le hf hn hE (hg.way i k hi hk h2) hi hk).1).elim
    · have := hf.hi i k hi hk
      have := hg.hi i k hi hk
      omega

end Go.Proofs.Ytjniiejgccdhiaa
