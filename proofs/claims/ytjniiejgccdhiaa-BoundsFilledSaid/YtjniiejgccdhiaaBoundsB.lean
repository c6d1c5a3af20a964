/- What the laws on package bounds share: the references' helpers. No condition. -/
import Derived.Test.YtjniiejgccdhiaaBenF
import Derived.Test.YtjniiejgccdhiaaPlain
namespace Go.Proofs.Ytjniiejgccdhiaa
open Go.Sim

theorem around_is (n most : Int) (hn : I64 n) (hm : 1 ≤ most) : ∃ r, fAround n most = some r ∧ 0 ≤ r ∧ r < most := by
  unfold I64 at hn
  have key : ∀ m : Int, 0 ≤ m → ∃ r, (if (decide (most < (1:Int))) = true then (some (0:Int)) else (nz most).bind fun _ => (some (Int.tmod m most))) = some r ∧ 0 ≤ r ∧ r < most := by
    intro m h
    rw [if_neg (by simp; omega), nz_of (by omega)]
    exact ⟨_, rfl, Int.tmod_nonneg _ h, Int.tmod_lt_of_pos _ (by omega)⟩
  unfold fAround
  by_cases h : n < 0
  · rw [if_pos (by simpa using h), w64 (n := n + 1) (by omega) (by omega), w64 (by omega) (by omega)]
    exact key _ (by omega)
  · rw [if_neg (by simpa using h)]
    exact key _ (by omega)
theorem around_low (n most : Int) (hm : most < 1) : fAround n most = some 0 := by
  unfold fAround
  by_cases h : n < 0
  · rw [if_pos (by simpa using h)]; exact if_pos (by simpa using hm)
  · rw [if_neg (by simpa using h)]; exact if_pos (by simpa using hm)

theorem at_is (l : List Int) (i most : Int) (hl : ∀ x ∈ l, I64 x) (hm : 1 ≤ most) : ∃ r, fAt l i most = some r ∧ 0 ≤ r ∧ r < most := by
  unfold fAt
  by_cases h : ((decide (i < (0:Int))) || (decide (i ≥ (l.length : Int)))) = true
  · rw [if_pos h]; exact ⟨0, rfl, by omega, by omega⟩
  · rw [if_neg h]
    simp only [Bool.or_eq_true, decide_eq_true_eq, not_or] at h
    rw [idx_int _ (by omega), List.getElem?_eq_getElem (by omega)]
    obtain ⟨r, h1, h2⟩ := around_is l[i.toNat] most (hl _ (List.getElem_mem _)) hm
    exact ⟨r, by simp [h1], h2⟩

theorem sameInts_is (a b : List Int) (ha : a.length < 1000000) : fSameInts a b = some (decide (a = b)) := by
  unfold fSameInts
  by_cases hl : a.length = b.length
  · rw [if_neg (by simp [hl])]
    refine scan_bind a.length (fun k => a.getD k 0 != b.getD k 0) (.inl ()) (fun _ => .inr false) ?_ ?_ ?_ ?_ ?_
    · intro k hk hp
      have hk' : k < b.length := by omega
      rw [List.getD_eq_getElem?_getD, List.getElem?_eq_getElem hk, List.getD_eq_getElem?_getD, List.getElem?_eq_getElem hk'] at hp
      simp only [Option.getD_some, bne_eq_false_iff_eq] at hp
      rw [if_pos (by simpa using hk), idx_lt hk, idx_lt hk']
      simp only [Option.bind_some]
      rw [if_neg (by simpa using hp), w64_succ hk (by omega)]
    · intro k hk hp
      have hk' : k < b.length := by omega
      rw [List.getD_eq_getElem?_getD, List.getElem?_eq_getElem hk, List.getD_eq_getElem?_getD, List.getElem?_eq_getElem hk'] at hp
      simp only [Option.getD_some] at hp
      rw [if_pos (by simpa using hk), idx_lt hk, idx_lt hk']
      simp only [Option.bind_some]
      rw [if_pos hp]
    · rw [if_neg (by simp)]
    · intro hp
      have : a = b := by
        apply List.ext_getElem hl
        intro k h1 h2
        have := hp k h1
        rw [List.getD_eq_getElem?_getD, List.getElem?_eq_getElem h1, List.getD_eq_getElem?_getD, List.getElem?_eq_getElem h2] at this
        simpa using this
      simp [this]
    · intro k hk hp
      have : a ≠ b := by
        rintro rfl
        simp at hp
      simp [this]
  · rw [if_pos (by simp; omega)]
    have : a ≠ b := by rintro rfl; exact hl rfl
    simp [this]

theorem clone_is (l : List Int) (hl : l.length ≤ 1000000) : fClone l = some l := by
  unfold fClone
  rw [rm_le (by simp; omega)]
  rfl


/-! Searches -/

def firstIdx {α : Type} (s : List α) (p : α → Bool) : Int := match s.findIdx? p with | some k => (k : Int) | none => -1
theorem index_loop {α : Type} (s : List α) (f : α → Option Bool) (p : α → Bool) (hf : ∀ x ∈ s, f x = some (p x)) (hl : s.length < 1000000000) :
    (tailrec (fun (s4 : Int) => ((if (decide (s4 < (s.length : Int))) = true then (idx s s4).bind fun t14 => (f t14).bind fun t16 => (if t16 = true then (some (.inr (.inr s4))) else (some (.inl (IntKind.i64.wrap (s4 + (1:Int)))))) else (some (.inr (.inl ())))) : Option ((Int) ⊕ ((Unit) ⊕ (Int))))) (0:Int)).bind (fun (e5 : (Unit) ⊕ (Int)) => (match e5 with | .inl _ => (some (-1:Int)) | .inr p15 => (some p15))) = some (firstIdx s p) := by
  have hscan := tailrec_scan (body := (fun (s4 : Int) => ((if (decide (s4 < (s.length : Int))) = true then (idx s s4).bind fun t14 => (f t14).bind fun t16 => (if t16 = true then (some (.inr (.inr s4))) else (some (.inl (IntKind.i64.wrap (s4 + (1:Int)))))) else (some (.inr (.inl ())))) : Option ((Int) ⊕ ((Unit) ⊕ (Int)))))) s.length (fun k => match s[k]? with | some x => p x | none => false) (.inl ()) (fun k => .inr (k : Int)) ?_ ?_ ?_
  · rcases hscan with ⟨k, hk, hp, hmin, he⟩ | ⟨hno, he⟩
    · rw [he]
      simp only [Option.bind_some]
      simp only [List.getElem?_eq_getElem hk] at hp
      have : s.findIdx? p = some k := by
        rw [List.findIdx?_eq_some_iff_getElem]
        refine ⟨hk, hp, fun j hj => ?_⟩
        have := hmin j hj
        simp only [List.getElem?_eq_getElem (Nat.lt_trans hj hk)] at this
        simp [this]
      unfold firstIdx
      rw [this]
    · rw [he]
      simp only [Option.bind_some]
      have : s.findIdx? p = none := by
        rw [List.findIdx?_eq_none_iff]
        intro x hx
        obtain ⟨k, hk, rfl⟩ := List.getElem_of_mem hx
        have := hno k hk
        simpa only [List.getElem?_eq_getElem hk] using this
      unfold firstIdx
      rw [this]
  · intro k hk hp
    simp only [List.getElem?_eq_getElem hk] at hp
    rw [if_pos (by simpa using hk), idx_lt hk]
    simp only [Option.bind_some]
    rw [hf _ (List.getElem_mem hk), hp]
    simp only [Option.bind_some]
    rw [if_neg (by simp), w64_succ hk (by omega)]
  · intro k hk hp
    simp only [List.getElem?_eq_getElem hk] at hp
    rw [if_pos (by simpa using hk), idx_lt hk]
    simp only [Option.bind_some]
    rw [hf _ (List.getElem_mem hk), hp]
    rfl
  · rw [if_neg (by simp)]
theorem firstIdx_ge {α : Type} (s : List α) (p : α → Bool) : decide (firstIdx s p ≥ 0) = s.any p := by
  unfold firstIdx
  cases h : s.findIdx? p with
  | none =>
    rw [List.findIdx?_eq_none_iff] at h
    have : s.any p = false := by rw [List.any_eq_false]; intro x hx; simp [h x hx]
    rw [this]; rfl
  | some k =>
    rw [List.findIdx?_eq_some_iff_getElem] at h
    obtain ⟨hk, hp, _⟩ := h
    have : s.any p = true := List.any_eq_true.2 ⟨_, List.getElem_mem hk, hp⟩
    rw [this]; simp
theorem containsI_gen (s : List Int) (f : Int → Option Bool) (p : Int → Bool) (hf : ∀ x ∈ s, f x = some (p x)) (hl : s.length < 1000000000) : fContainsI s f = some (s.any p) := by
  unfold fContainsI
  rw [show fIndexI s f = some (firstIdx s p) from index_loop s f p hf hl]
  simp only [Option.bind_some, firstIdx_ge]
theorem containsL_gen (s : List (List Int)) (f : List Int → Option Bool) (p : List Int → Bool) (hf : ∀ x ∈ s, f x = some (p x)) (hl : s.length < 1000000000) : fContainsL s f = some (s.any p) := by
  unfold fContainsL
  rw [show fIndexL s f = some (firstIdx s p) from index_loop s f p hf hl]
  simp only [Option.bind_some, firstIdx_ge]
theorem indexD_gen (s : List SDiff) (f : SDiff → Option Bool) (p : SDiff → Bool) (hf : ∀ x ∈ s, f x = some (p x)) (hl : s.length < 1000000000) : fIndexD s f = some (firstIdx s p) := index_loop s f p hf hl

/-! The greatest and the least of a list -/

theorem max_loop (op : Int → Int → Int) (x : Int) (xs : List Int) (hl : xs.length < 1000000000) :
    tailrec (fun (s7 : Int × Int) => ((if (decide (s7.1 < ((x :: xs).length : Int))) = true then (idx (x :: xs) s7.1).bind fun t21 => (some (.inl ((IntKind.i64.wrap (s7.1 + (1:Int))), (op s7.2 t21)))) else (some (.inr s7.2))) : Option ((Int × Int) ⊕ ((Int))))) ((1:Int), x) = some (xs.foldl op x) := by
  refine tailrec_for xs.length (fun k => (((k + 1 : Nat) : Int), (xs.take k).foldl op x)) _ ?_ ?_
  · intro k hk
    have hk1 : k + 1 < (x :: xs).length := by simpa using hk
    simp only
    rw [if_pos (by simpa using hk), idx_lt hk1]
    simp only [Option.bind_some, List.getElem_cons_succ]
    rw [w64_succ (n := xs.length + 1) (by omega) (by omega), List.take_succ_eq_append_getElem hk, List.foldl_append]
    rfl
  · simp only
    rw [if_neg (by simp), List.take_length]
theorem max_eq (x : Int) (xs : List Int) (hl : xs.length < 1000000000) : fMax (x :: xs) = some (xs.foldl imax x) := by
  unfold fMax
  rw [if_neg (by simp; omega), show idx (x :: xs) (0:Int) = some x from rfl]
  simp only [Option.bind_some]
  rw [max_loop imax x xs hl]; rfl
theorem min_eq (x : Int) (xs : List Int) (hl : xs.length < 1000000000) : fMin (x :: xs) = some (xs.foldl imin x) := by
  unfold fMin
  rw [if_neg (by simp; omega), show idx (x :: xs) (0:Int) = some x from rfl]
  simp only [Option.bind_some]
  rw [max_loop imin x xs hl]; rfl

/-- A running choice: whether there was something, and the best of it. -/
def best (op : Int → Int → Int) (d : Int) (l : List Int) : Bool × Int := l.foldl (fun s y => (true, if s.1 = true then op s.2 y else y)) (false, d)
theorem best_cons (op : Int → Int → Int) (d x : Int) (l : List Int) : best op d (x :: l) = (true, l.foldl op x) := by
  unfold best
  simp only [List.foldl_cons, Bool.false_eq_true, if_false]
  induction l generalizing x with
  | nil => rfl
  | cons y l ih => simp only [List.foldl_cons, if_true]; exact ih (op x y)
theorem best_snoc (op : Int → Int → Int) (d y : Int) (l : List Int) : best op d (l ++ [y]) = (true, if (best op d l).1 = true then op (best op d l).2 y else y) := by
  unfold best; rw [List.foldl_append]; rfl

/-! Tables -/

/-- A number of a table. -/
def at2 (c : List (List Int)) (i k : Nat) : Int := (c.getD i []).getD k 0
/-- A table of m rows of m numbers. -/
structure Sq (m : Nat) (c : List (List Int)) : Prop where
  len : c.length = m
  row : ∀ r ∈ c, r.length = m
theorem Sq.idx {m : Nat} {c : List (List Int)} (h : Sq m c) {i : Nat} (hi : i < m) : idx c (i : Int) = some (c.getD i []) ∧ (c.getD i []).length = m := by
  have hl : i < c.length := by rw [h.len]; exact hi
  rw [idx_lt hl, List.getD_eq_getElem?_getD, List.getElem?_eq_getElem hl]
  exact ⟨rfl, h.row _ (List.getElem_mem hl)⟩
theorem Sq.idx2 {m : Nat} {c : List (List Int)} (h : Sq m c) {i k : Nat} (hi : i < m) (hk : k < m) : Sim.idx (c.getD i []) (k : Int) = some (at2 c i k) := by
  have hl : k < (c.getD i []).length := by rw [(h.idx hi).2]; exact hk
  rw [idx_lt hl]
  unfold at2
  rw [List.getD_eq_getElem?_getD (l := c.getD i []), List.getElem?_eq_getElem hl]; rfl
def set2 (c : List (List Int)) (i k : Nat) (v : Int) : List (List Int) := c.set i ((c.getD i []).set k v)
theorem Sq.set {m : Nat} {c : List (List Int)} (h : Sq m c) {i k : Nat} (hi : i < m) (v : Int) : Sq m (set2 c i k v) := by
  refine ⟨by simp [set2, h.len], fun r hr => ?_⟩
  unfold set2 at hr
  rcases List.mem_or_eq_of_mem_set hr with hr | rfl
  · exact h.row r hr
  · rw [List.length_set]; exact (h.idx hi).2
theorem Sq.setRow {m : Nat} {c : List (List Int)} (h : Sq m c) {i k : Nat} (hi : i < m) (hk : k < m) (v : Int) : setAt (c.getD i []) (k : Int) v = some ((c.getD i []).set k v) ∧ setAt c (i : Int) ((c.getD i []).set k v) = some (set2 c i k v) :=
  ⟨setAt_lt (by rw [(h.idx hi).2]; exact hk) v, setAt_lt (by rw [h.len]; exact hi) _⟩
theorem Sq.at_set {m : Nat} {c : List (List Int)} (h : Sq m c) {i k : Nat} (hi : i < m) (hk : k < m) (v : Int) (p q : Nat) : at2 (set2 c i k v) p q = if p = i ∧ q = k then v else at2 c p q := by
  unfold at2 set2
  have hl : i < c.length := by rw [h.len]; exact hi
  have hr := (h.idx hi).2
  by_cases hp : p = i
  · subst hp
    have e : (c.set p ((c.getD p []).set k v)).getD p [] = (c.getD p []).set k v := by
      rw [List.getD_eq_getElem?_getD, List.getElem?_set_self hl]; rfl
    rw [e]
    by_cases hq : q = k
    · subst hq
      rw [if_pos ⟨rfl, rfl⟩, List.getD_eq_getElem?_getD, List.getElem?_set_self (by omega)]; rfl
    · rw [if_neg (fun h => hq h.2), List.getD_eq_getElem?_getD, List.getElem?_set_ne (Ne.symm hq), ← List.getD_eq_getElem?_getD]
  · rw [if_neg (fun h => hp h.1)]
    have e : (c.set i ((c.getD i []).set k v)).getD p [] = c.getD p [] := by
      rw [List.getD_eq_getElem?_getD, List.getElem?_set_ne (Ne.symm hp), ← List.getD_eq_getElem?_getD]
    rw [e]
theorem Sq.ext {m : Nat} {c d : List (List Int)} (h : Sq m c) (k : Sq m d) (he : ∀ i j, i < m → j < m → at2 c i j = at2 d i j) : c = d := by
  apply List.ext_getElem
  · rw [h.len, k.len]
  · intro i h1 h2
    have hi : i < m := by rw [← h.len]; exact h1
    have r1 := h.row _ (List.getElem_mem h1)
    have r2 := k.row _ (List.getElem_mem h2)
    apply List.ext_getElem
    · rw [r1, r2]
    · intro j h3 h4
      have := he i j hi (by omega)
      unfold at2 at this
      simpa [List.getD_eq_getElem?_getD, h1, h2, h3, h4] using this

end Go.Proofs.Ytjniiejgccdhiaa
