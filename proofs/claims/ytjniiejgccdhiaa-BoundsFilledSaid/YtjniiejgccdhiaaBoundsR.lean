/- Package bounds: closures of closures. BoundsClosed holds of the Lean functions. No condition. -/
import Derived.Test.YtjniiejgccdhiaaBoundsL
import Derived.Test.YtjniiejgccdhiaaBenL
namespace Go.Proofs.Ytjniiejgccdhiaa
open Go.Sim

theorem validS_of {m : Nat} {l : List SDiff} (hv : Valid m l) : validS ((m : Int) - 1) l = 0 := by
  have h1 := hv.m1
  have h2 := hv.m11
  have h3 := hv.len
  unfold validS
  rw [if_neg (by simp; omega), if_neg (by simp; omega), if_neg]
  intro h
  obtain ⟨d, hd, hb⟩ := List.any_eq_true.1 h
  obtain ⟨a1, a2, a3, a4, a5, a6, a7⟩ := hv.ok d hd
  unfold badD at hb
  simp only [Bool.or_eq_true, decide_eq_true_eq, beq_iff_eq] at hb
  omega
theorem closeS_valid {m : Nat} {l : List SDiff} (hv : Valid m l) : closeS ((m : Int) - 1) l = if negB m (tP m l) = true then ([], 14) else (tab m (tP m l), 0) := by
  unfold closeS
  rw [if_neg (by rw [validS_of hv]; simp), show ((m : Int) - 1 + 1).toNat = m by omega]
theorem made_valid {n : Int} {d : List SDiff} (h1 : 1 ≤ n) (h2 : n ≤ 5) (h3 : d.length ≤ 17) (h4 : ∀ x ∈ d, okD n x) : ∃ m : Nat, n = (m : Int) - 1 ∧ 2 ≤ m ∧ m ≤ 6 ∧ Valid m d := by
  refine ⟨(n + 1).toNat, by omega, by omega, by omega, by omega, by omega, by omega, fun x hx => ?_⟩
  have := h4 x hx
  unfold okD at this
  omega

theorem edT_val (G : Nat → Nat → Int) (e : Ed) (i k : Nat) : edT G e i k = G i k ∨ edT G e i k = e.w := by
  unfold edT upd1
  by_cases hi : i = e.a
  · subst hi
    rw [if_pos rfl]
    by_cases hk : k = e.b
    · subst hk
      rw [if_pos rfl]
      exact (imin_le _ _).2.2
    · rw [if_neg hk]; exact .inl rfl
  · rw [if_neg hi]; exact .inl rfl
theorem eds_val (E : List Ed) : ∀ (G : Nat → Nat → Int) (i k : Nat), E.foldl edT G i k = G i k ∨ ∃ e ∈ E, E.foldl edT G i k = e.w := by
  induction E with
  | nil => intro G i k; exact .inl rfl
  | cons e E ih =>
    intro G i k
    rw [List.foldl_cons]
    rcases ih (edT G e) i k with h | ⟨x, hx, h⟩
    · rcases edT_val G e i k with h2 | h2
      · exact .inl (h.trans h2)
      · exact .inr ⟨e, List.mem_cons_self .., h.trans h2⟩
    · exact .inr ⟨x, List.mem_cons_of_mem _ hx, h⟩
theorem small_grid {m : Nat} {l : List SDiff} (hv : Valid m l) (hN : ∀ d ∈ l, -7 ≤ d.N ∧ d.N ≤ 15) : GridOk (l.map (edN m)) m 7 15 (edsT (l.map (edN m))) := by
  have h := (eds_ok hv).1
  have key : ∀ i k, edsT (l.map (edN m)) i k = 0 ∨ edsT (l.map (edN m)) i k = INF ∨ (-7 ≤ edsT (l.map (edN m)) i k ∧ edsT (l.map (edN m)) i k ≤ 15) := by
    intro i k
    rcases eds_val (l.map (edN m)) T0 i k with h | ⟨e, he, h⟩
    · have h' : edsT (l.map (edN m)) i k = T0 i k := h
      unfold T0 at h'
      split at h'
      · exact .inl h'
      · exact .inr (.inl h')
    · have h' : edsT (l.map (edN m)) i k = e.w := h
      obtain ⟨d, hd, rfl⟩ := List.mem_map.1 he
      have := hN d hd
      exact .inr (.inr (by rw [h']; exact this))
  have u0 : INF = 1099511627776 := rfl
  refine ⟨fun i hi => ⟨fun q hq => ?_, (h.row i hi).hi, fun q hq hf => ?_, (h.row i hi).way⟩, h.diag⟩
  · have := key i q; omega
  · have := key i q; omega

theorem iters_gridB {E : List Ed} {m : Nat} {ph : Nat → (Nat → Nat → Int) → Nat → Nat → Int} (hph : PhOk E m ph) {G : Nat → Nat → Int} {B U : Int} (hB : 0 ≤ B) (hU : 0 ≤ U) (h : GridOk E m B U G) :
    ∀ n, n ≤ m → 0 ≤ 8 ^ n * B ∧ 0 ≤ 2 ^ n * U ∧ GridOk E m (8 ^ n * B) (2 ^ n * U) (iters ph G n) := by
  intro n
  induction n with
  | zero => intro _; exact ⟨by omega, by omega, by simpa [iters] using h⟩
  | succ n ih =>
    intro hn
    obtain ⟨b1, b2, g⟩ := ih (by omega)
    rw [iters_succ]
    have := hph.ok n _ _ _ (by omega) b1 b2 g
    have e1 : (8 : Int) ^ (n + 1) * B = 8 * (8 ^ n * B) := by rw [Int.pow_succ, Int.mul_comm (8 ^ n) 8, Int.mul_assoc]
    have e2 : (2 : Int) ^ (n + 1) * U = 2 * (2 ^ n * U) := by rw [Int.pow_succ, Int.mul_comm (2 ^ n) 2, Int.mul_assoc]
    rw [e1, e2]; exact ⟨by omega, by omega, this⟩
theorem tP_small {m : Nat} {l : List SDiff} (hv : Valid m l) (hm : m ≤ 6) (hN : ∀ d ∈ l, -7 ≤ d.N ∧ d.N ≤ 15) {i k : Nat} (hi : i < m) (hk : k < m) : -2097152 ≤ tP m l i k ∧ (tP m l i k < INF → tP m l i k ≤ 2097152) := by
  have h := (iters_gridB (phP_ok (l.map (edN m)) m) (by decide) (by decide) (small_grid hv hN) m (Nat.le_refl _)).2.2
  have hp : ∀ m, m ≤ 6 → (8 : Int) ^ m * 7 ≤ 2097152 ∧ (2 : Int) ^ m * 15 ≤ 2097152 := by decide
  have := hp m hm
  have h1 := (h.row i hi).lo k hk
  have h2 := (h.row i hi).up k hk
  unfold tP
  exact ⟨by omega, fun hf => by have := h2 hf; omega⟩

/-! The closure as differences -/

def backA (m i : Nat) : Int := if i + 1 = m then -1 else (i : Int)
theorem back_row {m i : Nat} (h : i < m) : rowN m (backA m i) = i ∧ -1 ≤ backA m i ∧ backA m i < (m : Int) - 1 := by
  unfold backA rowN
  by_cases h1 : i + 1 = m
  · rw [if_pos h1, if_pos (by decide)]; omega
  · rw [if_neg h1, if_neg (by omega)]; omega
def cellD (m : Nat) (G : Nat → Nat → Int) (i k : Nat) : List SDiff := if i ≠ k ∧ G i k < INF then [SDiff.mk (backA m i) (backA m k) (G i k)] else []
def rowD (m : Nat) (G : Nat → Nat → Int) (i : Nat) : List SDiff := (List.range m).flatMap (cellD m G i)
def allD (m : Nat) (G : Nat → Nat → Int) : List SDiff := (List.range m).flatMap (rowD m G)

theorem flat_len {α : Type} {f : Nat → List α} {c : Nat} (h : ∀ i, (f i).length ≤ c) : ∀ n, ((List.range n).flatMap f).length ≤ n * c := by
  intro n
  induction n with
  | zero => simp
  | succ n ih =>
    rw [List.range_succ, List.flatMap_append, List.length_append, Nat.succ_mul]
    have := h n
    simp only [List.flatMap_cons, List.flatMap_nil, List.append_nil]
    omega
theorem flat_snoc {α : Type} {f : Nat → List α} {n : Nat} : (List.range (n + 1)).flatMap f = (List.range n).flatMap f ++ f n := by
  rw [List.range_succ, List.flatMap_append]; simp
theorem cellD_len {m : Nat} {G : Nat → Nat → Int} (i k : Nat) : (cellD m G i k).length ≤ 1 := by unfold cellD; split <;> simp
theorem rowD_len {m : Nat} {G : Nat → Nat → Int} (i : Nat) : (rowD m G i).length ≤ m := by
  have := flat_len (fun k => cellD_len (m := m) (G := G) i k) m
  unfold rowD; omega
theorem allD_mem {m : Nat} {G : Nat → Nat → Int} {x : SDiff} : x ∈ allD m G ↔ ∃ i k, i < m ∧ k < m ∧ i ≠ k ∧ G i k < INF ∧ x = SDiff.mk (backA m i) (backA m k) (G i k) := by
  unfold allD rowD
  simp only [List.mem_flatMap, List.mem_range]
  constructor
  · rintro ⟨i, hi, k, hk, hx⟩
    unfold cellD at hx
    split at hx
    · next h => exact ⟨i, k, hi, hk, h.1, h.2, List.mem_singleton.1 hx⟩
    · cases hx
  · rintro ⟨i, k, hi, hk, h1, h2, rfl⟩
    refine ⟨i, hi, k, hk, ?_⟩
    unfold cellD
    rw [if_pos ⟨h1, h2⟩]
    exact List.mem_singleton.2 rfl

theorem all_valid {m : Nat} {G : Nat → Nat → Int} (h1 : 1 ≤ m) (h6 : m ≤ 6) (hG : ∀ i k, i < m → k < m → G i k < INF → -2097152 ≤ G i k ∧ G i k ≤ 2097152) : Valid m (allD m G) := by
  refine ⟨h1, by omega, ?_, fun d hd => ?_⟩
  · have := flat_len (fun i => rowD_len (m := m) (G := G) i) m
    have h36 : ∀ m, m ≤ 6 → m * m ≤ 64 := by decide
    have := h36 m h6
    unfold allD; omega
  · obtain ⟨i, k, hi, hk, hik, hf, rfl⟩ := allD_mem.1 hd
    have b1 := back_row hi
    have b2 := back_row hk
    have g := hG i k hi hk hf
    refine ⟨b1.2.1, b1.2.2, b2.2.1, b2.2.2, ?_, g.1, g.2⟩
    intro h
    simp only at h
    rw [h, b2.1] at b1
    exact hik b1.1.symm

theorem closed_again {m : Nat} {l : List SDiff} (hv : Valid m l) (h6 : m ≤ 6) (hN : ∀ d ∈ l, -7 ≤ d.N ∧ d.N ≤ 15) (hn : negB m (tP m l) = false) : closeS ((m : Int) - 1) (allD m (tP m l)) = (tab m (tP m l), 0) := by
  have hv2 : Valid m (allD m (tP m l)) := all_valid hv.m1 h6 fun i k hi hk hf => ⟨(tP_small hv h6 hN hi hk).1, (tP_small hv h6 hN hi hk).2 hf⟩
  have hf := tP_fin hv
  rw [negB_false] at hn
  have hg : Fin ((allD m (tP m l)).map (edN m)) m (tP m l) := by
    refine ⟨hf.hi, hf.up, fun i k hi hk hfin => ?_, hf.diag, hf.tri, fun e he => ?_⟩
    · by_cases hik : i = k
      · subst hik
        have e0 : tP m l i i = 0 := by have := hf.diag i hi; have := hn i hi; omega
        rw [e0]; exact .nil i
      · have hmem : SDiff.mk (backA m i) (backA m k) (tP m l i k) ∈ allD m (tP m l) := allD_mem.2 ⟨i, k, hi, hk, hik, hfin, rfl⟩
        have := Way.one (List.mem_map_of_mem (f := edN m) hmem)
        simp only [edN] at this
        rw [(back_row hi).1, (back_row hk).1] at this
        exact this
    · obtain ⟨d, hd, rfl⟩ := List.mem_map.1 he
      obtain ⟨i, k, hi, hk, _, _, rfl⟩ := allD_mem.1 hd
      simp only [edN]
      rw [(back_row hi).1, (back_row hk).1]
      exact Int.le_refl _
  have hf2 := tP_fin hv2
  have hE2 := eds_w hv2
  have n2 := fin_neg hg hf2 hE2 hn
  have e2 := fin_eq hg hf2 hE2 hn
  rw [closeS_valid hv2, if_neg (by rw [negB_false.2 n2]; simp)]
  congr 1
  exact tab_congr fun i k hi hk => (e2 i k hi hk).symm

end Go.Proofs.Ytjniiejgccdhiaa
