/- Package bounds: values that keep differences, turned and put back. No condition. -/
import Derived.Test.YtjniiejgccdhiaaBoundsY
namespace Go.Proofs.Ytjniiejgccdhiaa
open Go.Sim

def SolE (m : Nat) (v : Nat → Int) (l : List SDiff) : Prop := ∀ x ∈ l, v (rowN m x.A) ≤ v (rowN m x.B) + x.N
def sig (m i : Nat) : Nat := if i = m - 1 then i else m - 2 - i
theorem sig_sig {m i : Nat} (h : i < m) : sig m (sig m i) = i ∧ sig m i < m := by
  unfold sig
  by_cases h1 : i = m - 1
  · rw [if_pos h1, if_pos h1]; exact ⟨rfl, h⟩
  · rw [if_neg h1, if_neg (by omega)]; omega
def turnD (n : Int) (x : SDiff) : SDiff := ⟨if x.A ≥ 0 then n - 1 - x.A else x.A, if x.B ≥ 0 then n - 1 - x.B else x.B, x.N⟩
theorem turn_row {m : Nat} {a : Int} (h1 : -1 ≤ a) (h2 : a < (m : Int) - 1) : rowN m (if a ≥ 0 then (m : Int) - 1 - 1 - a else a) = sig m (rowN m a) := by
  unfold sig rowN
  by_cases h : a < 0
  · have e : (if a ≥ 0 then (m : Int) - 1 - 1 - a else a) = a := if_neg (by omega)
    rw [e, if_pos h, if_pos rfl]
  · have e : (if a ≥ 0 then (m : Int) - 1 - 1 - a else a) = (m : Int) - 1 - 1 - a := if_pos (by omega)
    have e1 : (if (m : Int) - 1 - 1 - a < 0 then m - 1 else ((m : Int) - 1 - 1 - a).toNat) = ((m : Int) - 1 - 1 - a).toNat := if_neg (by omega)
    have e2 : (if a < 0 then m - 1 else a.toNat) = a.toNat := if_neg h
    rw [e, e1, e2, if_neg (by omega)]; omega
theorem turn_ok {m : Nat} {x : SDiff} (h : okD ((m : Int) - 1) x) : okD ((m : Int) - 1) (turnD ((m : Int) - 1) x) := by
  unfold okD turnD at *
  simp only
  split <;> split <;> omega
theorem ok_valid {m : Nat} {l : List SDiff} (h1 : 1 ≤ m) (h6 : m ≤ 6) (hl : l.length ≤ 17) (h : ∀ x ∈ l, okD ((m : Int) - 1) x) : Valid m l :=
  ⟨h1, by omega, by omega, fun d hd => by have := h d hd; unfold okD at this; omega⟩
theorem sol_turn {m : Nat} {v : Nat → Int} {l : List SDiff} (h : ∀ x ∈ l, okD ((m : Int) - 1) x) : SolE m v (l.map (turnD ((m : Int) - 1))) ↔ SolE m (fun i => v (sig m i)) l := by
  unfold SolE
  have rows : ∀ x ∈ l, rowN m (turnD ((m : Int) - 1) x).A = sig m (rowN m x.A) ∧ rowN m (turnD ((m : Int) - 1) x).B = sig m (rowN m x.B) := by
    intro x hx
    have := h x hx
    unfold okD at this
    exact ⟨turn_row this.1 this.2.1, turn_row this.2.2.1 this.2.2.2.1⟩
  constructor
  · intro hs x hx
    have := hs _ (List.mem_map_of_mem hx)
    rw [(rows x hx).1, (rows x hx).2] at this
    exact this
  · intro hs y hy
    obtain ⟨x, hx, rfl⟩ := List.mem_map.1 hy
    rw [(rows x hx).1, (rows x hx).2]
    exact hs x hx
theorem sol_back {m : Nat} {v : Nat → Int} {l : List SDiff} (h : ∀ x ∈ l, okD ((m : Int) - 1) x) (hs : SolE m v l) : SolE m (fun i => v (sig m i)) (l.map (turnD ((m : Int) - 1))) := by
  rw [sol_turn h]
  intro x hx
  have := h x hx
  unfold okD at this
  simp only
  rw [(sig_sig (rowN_lt this.1 this.2.1)).1, (sig_sig (rowN_lt this.2.2.1 this.2.2.2.1)).1]
  exact hs x hx

theorem sol_way {m : Nat} {v : Nat → Int} {l : List SDiff} (hs : SolE m v l) {i k : Nat} {w : Int} (h : Way (l.map (edN m)) i k w) : v i ≤ v k + w := by
  induction h with
  | nil i => omega
  | cons he _ ih =>
    obtain ⟨d, hd, rfl⟩ := List.mem_map.1 he
    have := hs d hd
    have e1 : (edN m d).a = rowN m d.A := rfl
    have e2 : (edN m d).b = rowN m d.B := rfl
    have e3 : (edN m d).w = d.N := rfl
    rw [e2] at ih
    rw [e1, e3]
    omega
theorem sol_neg {m : Nat} {v : Nat → Int} {l : List SDiff} (hv : Valid m l) (hs : SolE m v l) : negB m (tP m l) = false := by
  rw [negB_false]
  intro i hi
  have hf := tP_fin hv
  have u0 : INF = 1099511627776 := rfl
  have h1 := hf.diag i hi
  have := sol_way hs (hf.way i i hi hi (by omega))
  omega
theorem sol_kept {m : Nat} {v : Nat → Int} {l : List SDiff} (hv : Valid m l) (hs : SolE m v l) {i j : Nat} (hi : i < m) (hj : j < m) (hf : tP m l i j < INF) : v i ≤ v j + tP m l i j := sol_way hs ((tP_fin hv).way i j hi hj hf)
theorem tP_Small {m : Nat} {l : List SDiff} (hv : Valid m l) (h2 : 2 ≤ m) (h6 : m ≤ 6) (hok : ∀ x ∈ l, okD ((m : Int) - 1) x) (hn : negB m (tP m l) = false) : Small m (tP m l) := by
  have hN : ∀ x ∈ l, -7 ≤ x.N ∧ x.N ≤ 15 := fun x hx => by have := hok x hx; unfold okD at this; omega
  exact ⟨h2, h6, fun i k hi hk => (tP_small hv h6 hN hi hk).1, (tP_fin hv).hi, fun i k hi hk => (tP_small hv h6 hN hi hk).2, negB_false.1 hn⟩
theorem kept_sol {m : Nat} {B : Int} {l : List SDiff} {p : List Int} (hv : Valid m l) (hl : p.length = m - 1) (hK : Kept m (tP m l) B p) : SolE m (vv m p) l := by
  intro x hx
  have hf := tP_fin hv
  have he := eds_w hv (edN m x) (List.mem_map_of_mem hx)
  have h1 := hf.edge (edN m x) (List.mem_map_of_mem hx)
  have u0 : INF = 1099511627776 := rfl
  have e1 : (edN m x).a = rowN m x.A := rfl
  have e2 : (edN m x).b = rowN m x.B := rfl
  have e3 : (edN m x).w = x.N := rfl
  rw [e1, e2, e3] at h1 he
  have seen : ∀ i, i < m → Seen m p.length i := fun i hi => by unfold Seen; omega
  have := hK.ok (rowN m x.A) (rowN m x.B) (seen _ he.1) (seen _ he.2.1) (by omega)
  omega
theorem vat_vv {m : Nat} {p : List Int} (hl : p.length = m - 1) {a : Int} (h1 : -1 ≤ a) (h2 : a < (m : Int) - 1) : vat p a = vv m p (rowN m a) := by
  unfold vat vv rowN
  by_cases h : a < 0
  · rw [if_pos h, if_pos h, if_pos rfl]
  · rw [if_neg h, if_neg h, if_neg (by omega)]
theorem vv_bd {m : Nat} {p : List Int} {B : Int} (h0 : 0 ≤ B) (hb : ∀ x ∈ p, -B ≤ x ∧ x ≤ B) (i : Nat) : -B ≤ vv m p i ∧ vv m p i ≤ B := by
  unfold vv
  split
  · omega
  · rw [List.getD_eq_getElem?_getD]
    cases h : p[i]? with
    | none => simp only [Option.getD_none]; omega
    | some x => exact hb x (List.mem_of_getElem? h)
theorem firstIdx_none {α : Type} {l : List α} {p : α → Bool} (h : ∀ x ∈ l, p x = false) : firstIdx l p = -1 := by
  unfold firstIdx
  rw [List.findIdx?_eq_none_iff.2 h]
theorem sol_holds {m : Nat} {B : Int} {l : List SDiff} {p : List Int} (hok : ∀ x ∈ l, okD ((m : Int) - 1) x) (hl : p.length = m - 1) (hm : 1 ≤ m) (h0 : 0 ≤ B) (h1 : B ≤ 1000000000) (hb : ∀ x ∈ p, -B ≤ x ∧ x ≤ B) (hs : SolE m (vv m p) l) : firstIdx l (breaks p) = -1 := by
  refine firstIdx_none fun x hx => ?_
  have h := hok x hx
  unfold okD at h
  have hs := hs x hx
  have b1 := vv_bd (m := m) h0 hb (rowN m x.A)
  have b2 := vv_bd (m := m) h0 hb (rowN m x.B)
  unfold breaks
  rw [dout_true, vat_vv hl h.1 h.2.1, vat_vv hl h.2.2.1 h.2.2.2.1, w64 (n := vv m p (rowN m x.B) + x.N) (by omega) (by omega)]
  simp only [Bool.or_eq_false_iff, decide_eq_false_iff_not]
  omega

theorem vv_rev {m : Nat} {t : List Int} (hl : t.length = m - 1) {i : Nat} (hi : i < m) : vv m t.reverse i = vv m t (sig m i) := by
  unfold vv sig
  by_cases h : i = m - 1
  · rw [if_pos h, if_pos h, if_pos h]
  · rw [if_neg h, if_neg h, if_neg (by omega), List.getD_eq_getElem?_getD, List.getD_eq_getElem?_getD, List.getElem?_reverse (by omega)]
    congr 2; omega

/-- What is kept whole is kept in part. -/
theorem kept_take {m : Nat} {G : Nat → Nat → Int} {B : Int} {V : List Int} (hl : V.length = m - 1) (hm : 1 ≤ m) (h0 : 0 ≤ B) (h1 : B ≤ 1000000000) (hb : ∀ x ∈ V, -B ≤ x ∧ x ≤ B) (hs : ∀ i j, i < m → j < m → G i j < INF → vv m V i ≤ vv m V j + G i j) (k : Nat) (hk : k ≤ m - 1) : Kept m G B (V.take k) := by
  have hlen : (V.take k).length = k := by rw [List.length_take]; omega
  refine ⟨h0, h1, fun x hx => hb x (List.mem_of_mem_take hx), fun i j hi hj hf => ?_⟩
  rw [hlen] at hi hj
  have e : ∀ i, Seen m k i → vv m (V.take k) i = vv m V i ∧ i < m := by
    intro i h
    unfold vv
    by_cases h2 : i = m - 1
    · rw [if_pos h2, if_pos h2]; exact ⟨rfl, by omega⟩
    · rw [if_neg h2, if_neg h2]
      rcases h with h | h
      · rw [List.getD_eq_getElem?_getD, List.getD_eq_getElem?_getD, List.getElem?_take, if_pos h]; exact ⟨rfl, by omega⟩
      · exact (h2 h).elim
  rw [(e i hi).1, (e j hj).1]
  exact hs i j (e i hi).2 (e j hj).2 hf
theorem in_range {m : Nat} {G : Nat → Nat → Int} {B : Int} (hG : Small m G) {V : List Int} (hl : V.length = m - 1) (h0 : 0 ≤ B) (h1 : B ≤ 1000000000) (hb : ∀ x ∈ V, -B ≤ x ∧ x ≤ B) (hs : ∀ i j, i < m → j < m → G i j < INF → vv m V i ≤ vv m V j + G i j) {k : Nat} (hk : k < m - 1) (hE : Ends m G k) :
    (loB (tab m G) (V.take k) (k + 1)).2 ≤ V.getD k 0 ∧ V.getD k 0 ≤ (hiB (tab m G) (V.take k) (k + 1)).2 := by
  have m2 := hG.m2
  have hlen : (V.take k).length = k := by rw [List.length_take]; omega
  have hK := kept_take hl (by omega) h0 h1 hb hs k (by omega)
  have r1 := (rng_lo hG (by omega) hK).2.2.2
  have r2 := (rng_hi hG (by omega) hK).2.2.2
  rw [hlen] at r1 r2
  have e : ∀ i, Seen m k i → vv m (V.take k) i = vv m V i ∧ i < m := by
    intro i h
    unfold vv
    by_cases h2 : i = m - 1
    · rw [if_pos h2, if_pos h2]; exact ⟨rfl, by omega⟩
    · rw [if_neg h2, if_neg h2]
      rcases h with h | h
      · rw [List.getD_eq_getElem?_getD, List.getD_eq_getElem?_getD, List.getElem?_take, if_pos h]; exact ⟨rfl, by omega⟩
      · exact (h2 h).elim
  have ek : vv m V k = V.getD k 0 := if_neg (by omega)
  obtain ⟨i, hi, hf, e1⟩ := r1 hE.1
  obtain ⟨j, hj, hg, e2⟩ := r2 hE.2
  have s1 := hs i k (e i hi).2 (by omega) hf
  have s2 := hs k j (by omega) (e j hj).2 hg
  rw [e1, e2, (e i hi).1, (e j hj).1]
  omega

end Go.Proofs.Ytjniiejgccdhiaa
