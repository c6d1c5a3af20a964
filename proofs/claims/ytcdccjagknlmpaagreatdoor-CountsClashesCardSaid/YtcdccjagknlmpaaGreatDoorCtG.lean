/- Counts: the smallest contradiction, both ways of looking. No condition. -/
import Derived.Test.YtcdccjagknlmpaaGreatDoorCtF
namespace Go.Proofs.YtcdccjagknlmpaaGreatDoor
open Go.Sim
open Classical in
/-- What is so is told. -/
noncomputable def tell (p : Prop) : Bool := if p then true else false
theorem tell_iff {p : Prop} : tell p = true ↔ p := by unfold tell; split <;> simp_all
theorem tell_f {p : Prop} : tell p = false ↔ ¬ p := by unfold tell; split <;> simp_all

theorem kept_is {L : List Scounts_Limit} (hl : L.length ≤ 1000000) (hL : ∀ y ∈ L, VL y 6) : fcounts_kept L = some (tell (Sat L)) := by
  obtain ⟨b, hb, hi⟩ := kept_ok hl hL
  rw [hb]; congr 1
  rw [Bool.eq_iff_iff, hi, tell_iff]
theorem rKept_is {R : List Sref13_Limit} (hl : R.length ≤ 1000000) (hR : ∀ y ∈ R, VL (toC y) 6) : fref13_Kept R = some (tell (Sat (R.map toC))) := by
  obtain ⟨b, hb, hi⟩ := rKept_ok hl hR
  rw [hb]; congr 1
  rw [Bool.eq_iff_iff, hi, tell_iff]

def zL : Scounts_Limit := ⟨0, 0, 0, false⟩
def zR : Sref13_Limit := ⟨0, 0, 0, false⟩
/-- The limits with some indices. -/
def sel (L : List Scounts_Limit) (S : List Nat) : List Scounts_Limit := S.map fun i => L.getD i zL
def rsel (R : List Sref13_Limit) (S : List Nat) : List Sref13_Limit := S.map fun i => R.getD i zR
theorem getD_lt {α : Type} {l : List α} {z : α} {i : Nat} (h : i < l.length) : l.getD i z = l[i] := by simp [List.getD_eq_getElem?_getD, h]
theorem sel_mem {L : List Scounts_Limit} {S : List Nat} (hS : ∀ i ∈ S, i < L.length) : ∀ y ∈ sel L S, y ∈ L := by
  intro y hy
  obtain ⟨i, hi, rfl⟩ := List.mem_map.1 hy
  rw [getD_lt (hS i hi)]; exact List.getElem_mem _
theorem rsel_mem {R : List Sref13_Limit} {S : List Nat} (hS : ∀ i ∈ S, i < R.length) : ∀ y ∈ rsel R S, y ∈ R := by
  intro y hy
  obtain ⟨i, hi, rfl⟩ := List.mem_map.1 hy
  rw [getD_lt (hS i hi)]; exact List.getElem_mem _
theorem rsel_sel {R : List Sref13_Limit} {S : List Nat} (hS : ∀ i ∈ S, i < R.length) : (rsel R S).map toC = sel (R.map toC) S := by
  unfold rsel sel
  rw [List.map_map]
  refine List.map_congr_left fun i hi => ?_
  have h := hS i hi
  show toC (R.getD i zR) = (R.map toC).getD i zL
  rw [getD_lt h, getD_lt (by simpa using h)]
  simp
theorem sel_sub {L : List Scounts_Limit} {S T : List Nat} (h : ∀ i ∈ S, i ∈ T) : ∀ y ∈ sel L S, y ∈ sel L T := by
  intro y hy
  obtain ⟨i, hi, rfl⟩ := List.mem_map.1 hy
  exact List.mem_map.2 ⟨i, h i hi, rfl⟩

theorem some_is {L : List Scounts_Limit} {S : List Nat} (hl : L.length ≤ 24) (hu : Up S) (hS : ∀ i ∈ S, i < L.length) (hn : S.length ≤ 1000000) : fcounts_some L (num S : Int) = some (sel L S) := by
  unfold fcounts_some
  rw [bits_loop S hu (fun j hj => by have := hS j hj; omega) (fun i => L.getD i zL) (fun i T acc hi ha hup hlt => ?_) (fun acc => if_neg (by simp))]
  · rfl
  · have hf := num_first hup hlt
    have hp := num_pos (i := i) (S := T)
    dsimp only
    rw [if_pos (by simp; omega), hf.1, hf.2]
    simp only [Option.bind_some]
    rw [idx_lt (hS i hi), getD_lt (hS i hi)]
    simp only [Option.bind_some]
    rw [rm_le (by simp; omega)]
    rfl
def ints (S : List Nat) : List Int := List.map (fun i : Nat => (i : Int)) S
theorem rsome_is {R : List Sref13_Limit} {S : List Nat} (hS : ∀ i ∈ S, i < R.length) (hn : S.length ≤ 1000000) : fref13_Some R (ints S) = some (rsel R S) := by
  unfold fref13_Some
  have := map_loop (body := (fun (s6 : Int × List Sref13_Limit) => ((if (decide (s6.1 < ((ints S).length : Int))) = true then (idx (ints S) s6.1).bind fun t17 => (idx R t17).bind fun t19 => (rm (s6.2.length + [t19].length)).bind fun _ => (some (.inl ((IntKind.i64.wrap (s6.1 + (1:Int))), (s6.2 ++ [t19])))) else (some (.inr s6.2))) : Option ((Int × List Sref13_Limit) ⊕ ((List Sref13_Limit)))))) S (fun i => R.getD i zR) (fun k hk acc ha => ?_) (fun acc => if_neg (by simp [ints]))
  · rw [this]; rfl
  · dsimp only
    rw [if_pos (by simp [ints]; omega), idx_lt (show k < (ints S).length by simpa [ints] using hk)]
    have e : (ints S)[k]'(by simpa [ints] using hk) = ((S[k] : Nat) : Int) := by simp [ints]
    simp only [Option.bind_some, e]
    have hi := hS _ (List.getElem_mem hk)
    rw [idx_lt hi, getD_lt hi]
    simp only [Option.bind_some]
    rw [rm_le (by simp; omega), w64_succ hk (by omega)]
    rfl

/-- The first one that is found. -/
noncomputable def tryS (f : Nat → List Nat) : List Nat → List Nat
  | [] => []
  | i :: l => if f i ≠ [] then f i else tryS f l
/-- The lexicographically first set of so many limits beside some, from a place on, that no numbers keep. -/
noncomputable def firstS (L : List Scounts_Limit) : Nat → List Nat → Nat → List Nat
  | 0, S, _ => if tell (Sat (sel L S)) = true then [] else S
  | m + 1, S, f => if tell (Sat (sel L (S ++ List.range' f (L.length - f)))) = true then [] else tryS (fun i => firstS L m (S ++ [i]) (i + 1)) (List.range' f (L.length + 1 - (m + 1) - f))

structure SOk (L : List Scounts_Limit) (S : List Nat) (f : Nat) : Prop where
  up : Up S
  lt : ∀ i ∈ S, i < f
  le : f ≤ L.length
theorem SOk.in {L : List Scounts_Limit} {S : List Nat} {f : Nat} (h : SOk L S f) : ∀ i ∈ S, i < L.length := fun i hi => Nat.lt_of_lt_of_le (h.lt i hi) h.le
theorem up_len' {n : Nat} : ∀ {S : List Nat} {k : Nat}, Up S → (∀ j ∈ S, k ≤ j ∧ j < n) → k ≤ n → k + S.length ≤ n
  | [], k, _, _, hk => hk
  | i :: S, k, hu, h, _ => by
    have hp := List.pairwise_cons.1 hu
    have hi := h i (List.mem_cons_self ..)
    have ih := up_len' (S := S) (k := i + 1) hp.2 (fun j hj => ⟨hp.1 j hj, (h j (List.mem_cons_of_mem _ hj)).2⟩) hi.2
    rw [List.length_cons]; omega
theorem up_len {S : List Nat} {n : Nat} (hu : Up S) (h : ∀ i ∈ S, i < n) : S.length ≤ n := by
  have := up_len' (k := 0) hu (fun j hj => ⟨Nat.zero_le _, h j hj⟩) (Nat.zero_le _)
  omega
theorem SOk.len {L : List Scounts_Limit} {S : List Nat} {f : Nat} (h : SOk L S f) : S.length ≤ f := up_len h.up h.lt
theorem SOk.snoc {L : List Scounts_Limit} {S : List Nat} {f i : Nat} (h : SOk L S f) (hi : f ≤ i) (hl : i < L.length) : SOk L (S ++ [i]) (i + 1) :=
  ⟨List.pairwise_append.2 ⟨h.up, List.pairwise_singleton _ _, fun a ha b hb => by rw [List.mem_singleton.1 hb]; exact Nat.lt_of_lt_of_le (h.lt a ha) hi⟩,
    fun j hj => by
      rcases List.mem_append.1 hj with hj | hj
      · have := h.lt j hj; omega
      · rw [List.mem_singleton.1 hj]; omega, hl⟩
theorem SOk.all {L : List Scounts_Limit} {S : List Nat} {f : Nat} (h : SOk L S f) : SOk L (S ++ List.range' f (L.length - f)) L.length :=
  ⟨List.pairwise_append.2 ⟨h.up, List.pairwise_lt_range', fun a ha b hb => by have := h.lt a ha; have := (List.mem_range'_1.1 hb).1; omega⟩,
    fun j hj => by
      rcases List.mem_append.1 hj with hj | hj
      · exact h.in j hj
      · have := (List.mem_range'_1.1 hj); have := h.le; omega, Nat.le_refl _⟩

/-- A loop over indices that stops at the first set that is found. -/
theorem first_of {ρ : Type} (f : Nat → List Nat) (g : List Nat → ρ) {body : Int → Option (Int ⊕ (Unit ⊕ ρ))} : ∀ (c a : Nat),
    (∀ i, a ≤ i → i < a + c → body (i : Int) = if f i ≠ [] then some (.inr (.inr (g (f i)))) else some (.inl ((i + 1 : Nat) : Int))) → body ((a + c : Nat) : Int) = some (.inr (.inl ())) →
    tailrec body (a : Int) = some (if tryS f (List.range' a c) ≠ [] then .inr (g (tryS f (List.range' a c))) else .inl ())
  | 0, a, _, he => by rw [tailrec_eq]; rw [Nat.add_zero] at he; rw [he]; rfl
  | c + 1, a, hb, he => by
    rw [tailrec_eq, hb a (Nat.le_refl _) (by omega), List.range'_succ]
    by_cases h : f a ≠ []
    · have e : tryS f (a :: List.range' (a + 1) c) = f a := if_pos h
      rw [if_pos h, e, if_pos h]
    · have e : tryS f (a :: List.range' (a + 1) c) = tryS f (List.range' (a + 1) c) := if_neg h
      rw [if_neg h, e]
      exact first_of f g c (a + 1) (fun i h1 h2 => hb i (by omega) (by omega)) (by rw [show a + 1 + c = a + (c + 1) by omega]; exact he)
theorem rest_is {n f : Nat} (hn : n ≤ 24) (hf : f ≤ n) : ishl .u64 (ishr .u64 (ishr .u64 (18446744073709551615:Int) (IntKind.i64.wrap ((64:Int) - (n : Int)))) (f : Int)) (f : Int) = ((2 ^ n - 2 ^ f : Nat) : Int) := by
  have key : ∀ n : Fin 25, ∀ f : Fin 25, f.val ≤ n.val → ishl .u64 (ishr .u64 (ishr .u64 (18446744073709551615:Int) (IntKind.i64.wrap ((64:Int) - ((n.val : Nat) : Int)))) ((f.val : Nat) : Int)) ((f.val : Nat) : Int) = ((2 ^ n.val - 2 ^ f.val : Nat) : Int) := by decide +kernel
  exact key ⟨n, by omega⟩ ⟨f, by omega⟩ hf
theorem one_shl {i : Nat} (h : i < 64) : ishl .u64 (1:Int) (i : Int) = ((2 ^ i : Nat) : Int) := by
  have key : ∀ i : Fin 64, ishl .u64 (1:Int) ((i.val : Nat) : Int) = ((2 ^ i.val : Nat) : Int) := by decide +kernel
  exact key ⟨i, h⟩
theorem num_one (i : Nat) : num [i] = 2 ^ i := rfl
theorem nn_nat (n : Nat) : nn (n : Int) = some () := if_pos (Int.natCast_nonneg n)

theorem smallest_is {L : List Scounts_Limit} (hl : L.length ≤ 24) (hL : ∀ y ∈ L, VL y 6) : ∀ (m N : Nat) (S : List Nat) (f : Nat), m < N → SOk L S f → m ≤ 1000 →
    gcounts_smallestN N L (num S : Int) (f : Int) (m : Int) = some (num (firstS L m S f) : Int)
  | m, 0, S, f, h, _, _ => absurd h (Nat.not_lt_zero _)
  | m, N + 1, S, f, h, hS, hm => by
    show fcounts_smallestS (gcounts_smallestN N) L (num S : Int) (f : Int) (m : Int) = _
    have hle := hS.le
    have hT := hS.all
    have h64 : ∀ {n : Nat}, n ≤ 24 → 2 ^ n < 2 ^ 64 := fun hn => Nat.lt_of_le_of_lt (Nat.pow_le_pow_right (n := 2) (by decide) hn) (by decide)
    have hSl : num S < 2 ^ 64 := Nat.lt_of_lt_of_le (num_lt hS.up hS.lt) (Nat.le_of_lt (h64 (by omega)))
    have hor : ior .u64 (num S : Int) ((2 ^ L.length - 2 ^ f : Nat) : Int) = (num (S ++ List.range' f (L.length - f)) : Int) := by
      have e : 2 ^ L.length - 2 ^ f = num (List.range' f (L.length - f)) := by
        have := num_range f (L.length - f)
        rw [show f + (L.length - f) = L.length by omega] at this
        omega
      rw [ior_nat hSl (Nat.lt_of_le_of_lt (Nat.sub_le _ _) (h64 hl)), e, num_or hS.up hS.lt (fun j hj => (List.mem_range'_1.1 hj).1)]
    have hTn := hT.len
    have hSn := hS.len
    have kall := kept_is (L := sel L (S ++ List.range' f (L.length - f))) (by simp only [sel, List.length_map]; omega) (fun y hy => hL y (sel_mem hT.in y hy))
    have kset := kept_is (L := sel L S) (by simp only [sel, List.length_map]; omega) (fun y hy => hL y (sel_mem hS.in y hy))
    unfold fcounts_smallestS
    rw [rest_is hl hle, hor, some_is hl hT.up hT.in (by omega), some_is hl hS.up hS.in (by omega)]
    rw [show nn (IntKind.i64.wrap ((64:Int) - (L.length : Int))) = some () by rw [w64 (by omega) (by omega)]; exact if_pos (by omega), nn_nat]
    simp only [Option.bind_some, kall, kset]
    cases m with
    | zero =>
      rw [if_pos (show (((0 : Nat) : Int) == (0:Int)) = true from rfl)]
      show _ = some ((num (if tell (Sat (sel L S)) = true then [] else S) : Nat) : Int)
      cases ha : tell (Sat (sel L (S ++ List.range' f (L.length - f)))) with
      | true =>
        have : tell (Sat (sel L S)) = true := tell_iff.2 ((tell_iff.1 ha).sub (sel_sub fun i hi => List.mem_append_left _ hi))
        rw [this]; rfl
      | false => cases tell (Sat (sel L S)) <;> rfl
    | succ m =>
      rw [if_neg (show ¬ ((((m + 1 : Nat) : Int) == (0:Int)) = true) by simp; omega)]
      show _ = some ((num (if tell (Sat (sel L (S ++ List.range' f (L.length - f)))) = true then [] else tryS (fun i => firstS L m (S ++ [i]) (i + 1)) (List.range' f (L.length + 1 - (m + 1) - f))) : Nat) : Int)
      cases ha : tell (Sat (sel L (S ++ List.range' f (L.length - f)))) with
      | true => rfl
      | false =>
        rw [if_neg (by decide), if_neg (by decide)]
        by_cases hc : f ≤ L.length + 1 - (m + 1)
        · rw [first_of (fun i => firstS L m (S ++ [i]) (i + 1)) (fun F => ((num F : Nat) : Int)) (L.length + 1 - (m + 1) - f) f (fun i h1 h2 => ?_) ?_]
          · simp only [Option.bind_some]
            by_cases hne : tryS (fun i => firstS L m (S ++ [i]) (i + 1)) (List.range' f (L.length + 1 - (m + 1) - f)) ≠ []
            · rw [if_pos hne]
            · rw [if_neg hne]
              have : tryS (fun i => firstS L m (S ++ [i]) (i + 1)) (List.range' f (L.length + 1 - (m + 1) - f)) = [] := Classical.not_not.1 hne
              rw [this]; rfl
          · rw [w64 (n := ((f + (L.length + 1 - (m + 1) - f) : Nat) : Int) + ((m + 1 : Nat) : Int)) (by omega) (by omega), if_neg (by simp; omega)]
          · have hil : i < L.length := by omega
            have hsn := hS.snoc h1 hil
            rw [w64 (n := (i : Int) + ((m + 1 : Nat) : Int)) (by omega) (by omega), if_pos (by simp; omega), nn_nat, one_shl (show i < 64 by omega)]
            rw [w64_succ (n := 24) (k := i) (by omega) (by omega), w64 (n := ((m + 1 : Nat) : Int) - 1) (by omega) (by omega), show ((m + 1 : Nat) : Int) - 1 = (m : Int) by omega]
            rw [← num_one i, ior_nat hSl (by rw [num_one]; exact Nat.pow_lt_pow_right (by decide) (by omega)), num_or hS.up (n := i) (fun j hj => Nat.lt_of_lt_of_le (hS.lt j hj) h1) (fun j hj => by rw [List.mem_singleton.1 hj]; exact Nat.le_refl _)]
            rw [smallest_is hl hL m N (S ++ [i]) (i + 1) (by omega) hsn (by omega)]
            simp only [Option.bind_some]
            by_cases hne : firstS L m (S ++ [i]) (i + 1) ≠ []
            · rw [if_pos hne, if_pos]
              have := (not_congr (num_zero (S := firstS L m (S ++ [i]) (i + 1)))).2 hne
              simp; omega
            · rw [if_neg hne, if_neg]
              have := num_zero.2 (Classical.not_not.1 hne)
              rw [this]; decide
        · have e : L.length + 1 - (m + 1) - f = 0 := by omega
          rw [e, first_of (fun i => firstS L m (S ++ [i]) (i + 1)) (fun F => ((num F : Nat) : Int)) 0 f (fun i h1 h2 => by omega) ?_]
          · rfl
          · rw [Nat.add_zero, w64 (n := (f : Int) + ((m + 1 : Nat) : Int)) (by omega) (by omega), if_neg (by simp; omega)]

end Go.Proofs.YtcdccjagknlmpaaGreatDoor
