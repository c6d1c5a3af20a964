/- CountsClashes, its plain law. No condition. -/
import Derived.Test.YtcdccjagknlmpaaGreatDoorCtG
import Derived.Test.YtcdccjagknlmpaaGreatDoorEvalA
namespace Go.Proofs.YtcdccjagknlmpaaGreatDoor
open Go.Sim

theorem ints_len (S : List Nat) : (ints S).length = S.length := by simp [ints]
theorem ints_snoc (S : List Nat) (i : Nat) : ints S ++ [(i : Int)] = ints (S ++ [i]) := by simp [ints]
theorem ints_app (S T : List Nat) : ints (S ++ T) = ints S ++ ints T := by simp [ints]
/-- The rest of the indices is put behind. -/
theorem rest_loop {n : Nat} (hn : n ≤ 1000000) : ∀ (c f : Nat) (acc : List Int), f + c = n → acc.length ≤ f →
    tailrec (fun (s14 : Int × List Int) => ((if (decide (s14.1 < (n : Int))) = true then (rm (s14.2.length + [s14.1].length)).bind fun _ => (some (.inl ((IntKind.i64.wrap (s14.1 + (1:Int))), (s14.2 ++ [s14.1])))) else (some (.inr s14.2))) : Option ((Int × List Int) ⊕ ((List Int))))) ((f : Int), acc) = some (acc ++ ints (List.range' f c))
  | 0, f, acc, h, _ => by
    rw [tailrec_eq]
    dsimp only
    rw [if_neg (by simp; omega)]
    show some acc = some (acc ++ [])
    rw [List.append_nil]
  | c + 1, f, acc, h, ha => by
    rw [tailrec_eq]
    dsimp only
    rw [if_pos (by simp; omega), rm_le (by simp; omega)]
    simp only [Option.bind_some]
    rw [w64_succ (n := n) (by omega) (by omega), rest_loop hn c (f + 1) (acc ++ [(f : Int)]) (by omega) (by simp; omega)]
    simp [ints, List.range'_succ]

theorem rfirst_is {R : List Sref13_Limit} (hl : R.length ≤ 24) (hR : ∀ y ∈ R, VL (toC y) 6) : ∀ (m N : Nat) (S : List Nat) (f : Nat), m < N → SOk (R.map toC) S f → m ≤ 1000 →
    gref13_firstN N R (ints S) (f : Int) (m : Int) = some (ints (firstS (R.map toC) m S f))
  | m, 0, S, f, h, _, _ => absurd h (Nat.not_lt_zero _)
  | m, N + 1, S, f, h, hS, hm => by
    show fref13_firstS (gref13_firstN N) R (ints S) (f : Int) (m : Int) = _
    obtain ⟨L, hLe⟩ : ∃ L, R.map toC = L := ⟨_, rfl⟩
    have hlen : L.length = R.length := by rw [← hLe]; simp
    rw [hLe] at hS ⊢
    have hle := hS.le
    have hT := hS.all
    have hTn := hT.len
    have hSn := hS.len
    have inS : ∀ i ∈ S, i < R.length := fun i hi => by have := hS.in i hi; omega
    have inT : ∀ i ∈ S ++ List.range' f (L.length - f), i < R.length := fun i hi => by have := hT.in i hi; omega
    have kall := rKept_is (R := rsel R (S ++ List.range' f (L.length - f))) (by simp only [rsel, List.length_map]; omega) (fun y hy => hR y (rsel_mem inT y hy))
    have kset := rKept_is (R := rsel R S) (by simp only [rsel, List.length_map]; omega) (fun y hy => hR y (rsel_mem inS y hy))
    rw [rsel_sel inT, hLe] at kall
    rw [rsel_sel inS, hLe] at kset
    have hr := rest_loop (n := R.length) (by omega) (R.length - f) f (ints S) (by omega) (by rw [ints_len]; exact hSn)
    unfold fref13_firstS
    cases m with
    | zero =>
      rw [if_pos (show (((0 : Nat) : Int) == (0:Int)) = true from rfl), rsome_is inS (by omega)]
      simp only [Option.bind_some, kset]
      show _ = some (ints (if tell (Sat (sel L S)) = true then [] else S))
      cases tell (Sat (sel L S)) <;> rfl
    | succ m =>
      rw [if_neg (show ¬ ((((m + 1 : Nat) : Int) == (0:Int)) = true) by simp; omega), rm_le (by rw [ints_len]; simp; omega)]
      simp only [Option.bind_some, List.nil_append]
      rw [hr, ← ints_app]
      simp only [Option.bind_some]
      rw [← hlen, rsome_is inT (by omega)]
      simp only [Option.bind_some, kall]
      show _ = some (ints (if tell (Sat (sel L (S ++ List.range' f (L.length - f)))) = true then [] else tryS (fun i => firstS L m (S ++ [i]) (i + 1)) (List.range' f (L.length + 1 - (m + 1) - f))))
      cases ha : tell (Sat (sel L (S ++ List.range' f (L.length - f)))) with
      | true => rfl
      | false =>
        rw [if_neg (by decide), if_neg (by decide)]
        by_cases hc : f ≤ L.length + 1 - (m + 1)
        · rw [first_of (fun i => firstS L m (S ++ [i]) (i + 1)) (fun F => ints F) (L.length + 1 - (m + 1) - f) f (fun i h1 h2 => ?_) ?_]
          · simp only [Option.bind_some]
            by_cases hne : tryS (fun i => firstS L m (S ++ [i]) (i + 1)) (List.range' f (L.length + 1 - (m + 1) - f)) ≠ []
            · rw [if_pos hne]
            · rw [if_neg hne]
              have : tryS (fun i => firstS L m (S ++ [i]) (i + 1)) (List.range' f (L.length + 1 - (m + 1) - f)) = [] := Classical.not_not.1 hne
              rw [this]; rfl
          · rw [w64 (n := ((f + (L.length + 1 - (m + 1) - f) : Nat) : Int) + ((m + 1 : Nat) : Int)) (by omega) (by omega), if_neg (by simp; omega)]
          · have hil : i < L.length := by omega
            have hsn := hS.snoc h1 hil
            rw [w64 (n := (i : Int) + ((m + 1 : Nat) : Int)) (by omega) (by omega), if_pos (by simp; omega), rm_le (by rw [ints_len]; simp; omega)]
            rw [w64_succ (n := 24) (k := i) (by omega) (by omega), w64 (n := ((m + 1 : Nat) : Int) - 1) (by omega) (by omega), show ((m + 1 : Nat) : Int) - 1 = (m : Int) by omega]
            have ih := rfirst_is hl hR m N (S ++ [i]) (i + 1) (by omega) (by rw [hLe]; exact hsn) (by omega)
            rw [hLe] at ih
            simp only [Option.bind_some, ints_snoc, ih]
            by_cases hne : firstS L m (S ++ [i]) (i + 1) ≠ []
            · rw [if_pos hne, if_pos]
              have := List.length_pos_iff.2 hne
              rw [ints_len]; simp; omega
            · rw [if_neg hne, if_neg]
              rw [Classical.not_not.1 hne]; decide
        · have e : L.length + 1 - (m + 1) - f = 0 := by omega
          rw [e, first_of (fun i => firstS L m (S ++ [i]) (i + 1)) (fun F => ints F) 0 f (fun i h1 h2 => by omega) ?_]
          · rfl
          · rw [Nat.add_zero, w64 (n := (f : Int) + ((m + 1 : Nat) : Int)) (by omega) (by omega), if_neg (by simp; omega)]

/-! Clash -/

theorem sat_nil : Sat [] := ⟨[0, 0, 0, 0, 0, 0], KInv.zero.vec (L := []), fun y hy => by cases hy⟩
theorem firstS_ne {L : List Scounts_Limit} : ∀ (m : Nat) (S : List Nat) (f : Nat), f + m = L.length → ¬ Sat (sel L (S ++ List.range' f (L.length - f))) → firstS L m S f ≠ []
  | 0, S, f, h, hn => by
    have e : L.length - f = 0 := by omega
    rw [e, List.range'_zero, List.append_nil] at hn
    show (if tell (Sat (sel L S)) = true then [] else S) ≠ []
    rw [if_neg (fun hh => hn (tell_iff.1 hh))]
    rintro rfl
    exact hn sat_nil
  | m + 1, S, f, h, hn => by
    show (if tell (Sat (sel L (S ++ List.range' f (L.length - f)))) = true then [] else tryS (fun i => firstS L m (S ++ [i]) (i + 1)) (List.range' f (L.length + 1 - (m + 1) - f))) ≠ []
    rw [if_neg (fun hh => hn (tell_iff.1 hh)), show L.length + 1 - (m + 1) - f = 1 by omega]
    have ih := firstS_ne (L := L) m (S ++ [f]) (f + 1) (by omega) (by
      rw [List.append_assoc]
      have e : L.length - f = (L.length - (f + 1)) + 1 := by omega
      rw [e, List.range'_succ] at hn
      exact hn)
    show (if firstS L m (S ++ [f]) (f + 1) ≠ [] then firstS L m (S ++ [f]) (f + 1) else []) ≠ []
    rw [if_pos ih]; exact ih
/-- The smallest set of limits that no numbers keep. -/
noncomputable def clashS (L : List Scounts_Limit) : List Nat := tryS (fun m => firstS L m [] 0) (List.range' 1 L.length)
theorem tryS_ne {f : Nat → List Nat} : ∀ {l : List Nat} {i : Nat}, i ∈ l → f i ≠ [] → tryS f l ≠ []
  | j :: l, i, hi, h => by
    show (if f j ≠ [] then f j else tryS f l) ≠ []
    by_cases hj : f j ≠ []
    · rw [if_pos hj]; exact hj
    · rw [if_neg hj]
      rcases List.mem_cons.1 hi with rfl | hi
      · exact (hj h).elim
      · exact tryS_ne hi h
theorem tryS_mem {f : Nat → List Nat} : ∀ {l : List Nat}, tryS f l ≠ [] → ∃ i ∈ l, tryS f l = f i
  | [], h => (h rfl).elim
  | j :: l, h => by
    by_cases hj : f j ≠ []
    · exact ⟨j, List.mem_cons_self .., if_pos hj⟩
    · have e : tryS f (j :: l) = tryS f l := if_neg hj
      rw [e] at h ⊢
      obtain ⟨i, hi, h1⟩ := tryS_mem h
      exact ⟨i, List.mem_cons_of_mem _ hi, h1⟩
theorem sel_all (L : List Scounts_Limit) : sel L (List.range' 0 L.length) = L := by
  apply List.ext_getElem
  · simp [sel]
  · intro i h1 h2
    simp [sel, List.getD_eq_getElem?_getD, h2]
theorem clashS_ne {L : List Scounts_Limit} (h : ¬ Sat L) : clashS L ≠ [] := by
  have hpos : 0 < L.length := by
    refine Nat.pos_of_ne_zero fun h0 => h ?_
    rw [List.length_eq_zero_iff.1 h0]; exact sat_nil
  refine tryS_ne (i := L.length) (List.mem_range'_1.2 ⟨hpos, by omega⟩) (firstS_ne _ _ _ (by omega) ?_)
  rw [List.nil_append, Nat.sub_zero, sel_all]; exact h
theorem firstS_ok {L : List Scounts_Limit} : ∀ (m : Nat) (S : List Nat) (f : Nat), SOk L S f → firstS L m S f ≠ [] → ∃ g, SOk L (firstS L m S f) g ∧ ¬ Sat (sel L (firstS L m S f)) ∧ (firstS L m S f).length = S.length + m
  | 0, S, f, hS, h => by
    have e : firstS L 0 S f = if tell (Sat (sel L S)) = true then [] else S := rfl
    by_cases hs : tell (Sat (sel L S)) = true
    · rw [e, if_pos hs] at h; exact (h rfl).elim
    · rw [e, if_neg hs]
      exact ⟨f, hS, fun hh => hs (tell_iff.2 hh), rfl⟩
  | m + 1, S, f, hS, h => by
    have e : firstS L (m + 1) S f = if tell (Sat (sel L (S ++ List.range' f (L.length - f)))) = true then [] else tryS (fun i => firstS L m (S ++ [i]) (i + 1)) (List.range' f (L.length + 1 - (m + 1) - f)) := rfl
    by_cases hs : tell (Sat (sel L (S ++ List.range' f (L.length - f)))) = true
    · rw [e, if_pos hs] at h; exact (h rfl).elim
    · rw [e, if_neg hs] at h ⊢
      obtain ⟨i, hi, h1⟩ := tryS_mem h
      rw [h1] at h ⊢
      have hi' := List.mem_range'_1.1 hi
      obtain ⟨g, g1, g2, g3⟩ := firstS_ok m (S ++ [i]) (i + 1) (hS.snoc hi'.1 (by omega)) h
      exact ⟨g, g1, g2, by rw [g3]; simp; omega⟩
theorem sok_nil (L : List Scounts_Limit) : SOk L [] 0 := ⟨List.Pairwise.nil, fun i hi => (by cases hi), Nat.zero_le _⟩
theorem clashS_ok {L : List Scounts_Limit} (h : ¬ Sat L) : ∃ g m, SOk L (clashS L) g ∧ ¬ Sat (sel L (clashS L)) ∧ (clashS L).length = m ∧ 1 ≤ m ∧ m ≤ L.length := by
  have hne := clashS_ne h
  obtain ⟨m, hm, e⟩ := tryS_mem (show tryS (fun m => firstS L m [] 0) (List.range' 1 L.length) ≠ [] from hne)
  have e : clashS L = firstS L m [] 0 := e
  rw [e] at hne ⊢
  obtain ⟨g, g1, g2, g3⟩ := firstS_ok m [] 0 (sok_nil L) hne
  have hm := List.mem_range'_1.1 hm
  exact ⟨g, m, g1, g2, by rw [g3]; simp, hm.1, by omega⟩

noncomputable def clashR (n : Int) (L : List Scounts_Limit) : List Int × Int :=
  if n < 1 ∨ 6 < n then ([], 1) else if (L.all fun y => validL y n) = false then ([], 1) else if 24 < L.length then ([], 4) else if tell (Sat L) = true then ([], 6) else (ints (clashS L), 0)
theorem vl6 {y : Scounts_Limit} {n : Int} (h : VL y n) (hn : n ≤ 6) : VL y 6 := ⟨h.a0, by have := h.a1; omega, h.b0, by have := h.b1; omega, h.m0, h.m1⟩
theorem grow_loop {g : Nat → List Nat} {body : Int × Int → Option ((Int × Int) ⊕ Int)} : ∀ (c m : Nat), (∀ i, m ≤ i → i < m + c → body ((i : Int), 0) = some (.inl (((i + 1 : Nat) : Int), ((num (g i) : Nat) : Int)))) →
    (∀ i (x : Int), x ≠ 0 → body (i, x) = some (.inr x)) → tryS g (List.range' m c) ≠ [] → tailrec body ((m : Int), 0) = some ((num (tryS g (List.range' m c)) : Nat) : Int)
  | 0, m, _, _, h => (h rfl).elim
  | c + 1, m, hb, he, h => by
    rw [List.range'_succ] at h ⊢
    rw [tailrec_eq, hb m (Nat.le_refl _) (by omega)]
    by_cases hj : g m ≠ []
    · have e : tryS g (m :: List.range' (m + 1) c) = g m := if_pos hj
      rw [e]
      show tailrec body (((m + 1 : Nat) : Int), ((num (g m) : Nat) : Int)) = _
      rw [tailrec_eq, he _ _ (by have := (not_congr (num_zero (S := g m))).2 hj; omega)]
    · have e : tryS g (m :: List.range' (m + 1) c) = tryS g (List.range' (m + 1) c) := if_neg hj
      rw [e] at h ⊢
      show tailrec body (((m + 1 : Nat) : Int), ((num (g m) : Nat) : Int)) = _
      rw [num_zero.2 (Classical.not_not.1 hj)]
      exact grow_loop c (m + 1) (fun i h1 h2 => hb i (by omega) (by omega)) he h

theorem Clash_is {L : List Scounts_Limit} {n : Int} (hl : L.length ≤ 1000000) : fcounts_Clash n L = some (clashR n L) := by
  unfold fcounts_Clash clashR
  have hany : fslices_ContainsFunc_Limit L (fun x0 => fcounts_Clashq1 x0 n) = some (L.any fun y => !validL y n) := anyLimit (f := fun x0 => fcounts_Clashq1 x0 n) hl (fun y hy => rfl)
  by_cases hn : n < 1 ∨ 6 < n
  · have e : (decide (n < 1) || decide (n > 6)) = true := by simpa using hn
    rw [if_pos hn, e]
    rfl
  · have e : (decide (n < 1) || decide (n > 6)) = false := by simp; omega
    rw [if_neg hn, e, show (false == false) = true from rfl, opt_true, hany]
    simp only [Option.bind_some, Bool.false_or]
    have hva : (L.any fun y => !validL y n) = !(L.all fun y => validL y n) := by rw [List.all_eq_not_any_not]; simp
    rw [hva]
    cases hv : (L.all fun y => validL y n) with
    | false => rfl
    | true =>
      have hv6 : ∀ y ∈ L, VL y 6 := fun y hy => vl6 (validL_iff.1 (List.all_eq_true.1 hv y hy)) (by omega)
      rw [if_neg (show ¬ ((!true) = true) by decide), if_neg (show ¬ (true = false) by decide)]
      by_cases h24 : 24 < L.length
      · rw [if_pos (by simp; omega), if_pos h24]
      · rw [if_neg (by simp; omega), if_neg h24, kept_is hl hv6]
        simp only [Option.bind_some]
        cases hs : tell (Sat L) with
        | true => rfl
        | false =>
          rw [if_neg (show ¬ (false = true) by decide), if_neg (show ¬ (false = true) by decide)]
          have hns := tell_f.1 hs
          obtain ⟨g, k, g1, g2, g3, g4, g5⟩ := clashS_ok hns
          have hg := grow_loop (g := fun m => firstS L m [] 0) (body := (fun (s12 : Int × Int) => ((if (s12.2 == (0:Int)) = true then (fcounts_smallest L (0:Int) (0:Int) s12.1).bind fun t34 => (some (.inl ((IntKind.i64.wrap (s12.1 + (1:Int))), t34))) else (some (.inr s12.2))) : Option ((Int × Int) ⊕ ((Int)))))) L.length 1 (fun i h1 h2 => ?_) (fun i x hx => ?_) (clashS_ne hns)
          · have hg' : tailrec (fun (s12 : Int × Int) => ((if (s12.2 == (0:Int)) = true then (fcounts_smallest L (0:Int) (0:Int) s12.1).bind fun t34 => (some (.inl ((IntKind.i64.wrap (s12.1 + (1:Int))), t34))) else (some (.inr s12.2))) : Option ((Int × Int) ⊕ ((Int))))) ((1:Int), (0:Int)) = some ((num (clashS L) : Nat) : Int) := hg
            rw [hg']
            simp only [Option.bind_some]
            have hin := g1.in
            rw [bits_loop (clashS L) g1.up (fun j hj => by have := hin j hj; omega) (fun i => (i : Int)) (fun i T acc hi ha hup hlt => ?_) (fun acc => if_neg (by simp))]
            · rfl
            · have hf := num_first hup hlt
              have hp := num_pos (i := i) (S := T)
              dsimp only
              rw [if_pos (by simp; omega), hf.1, hf.2]
              simp only [Option.bind_some]
              rw [rm_le (by simp; omega)]
              rfl
          · dsimp only
            have h0 := smallest_is (L := L) (by omega) hv6 i ((i : Int).natAbs + 2) [] 0 (by omega) (sok_nil L) (by omega)
            rw [if_pos (show ((0:Int) == (0:Int)) = true from rfl)]
            show ((gcounts_smallestN ((i : Int).natAbs + 2) L (0:Int) (0:Int) (i : Int)).bind fun t34 => some (Sum.inl (IntKind.i64.wrap ((i : Int) + 1), t34))) = _
            have h0' : gcounts_smallestN ((i : Int).natAbs + 2) L (0:Int) (0:Int) (i : Int) = some ((num (firstS L i [] 0) : Nat) : Int) := h0
            rw [h0']
            simp only [Option.bind_some]
            rw [w64_succ (n := i + 1) (by omega) (by omega)]
          · dsimp only
            rw [if_neg (by simpa using hx)]
theorem rClash_is {R : List Sref13_Limit} {n : Int} (hl : R.length ≤ 1000000) : fref13_Clash n R = some (clashR n (R.map toC)) := by
  unfold fref13_Clash clashR
  by_cases hn : n < 1 ∨ 6 < n
  · have e : (decide (n < 1) || decide (n > 6)) = true := by simpa using hn
    rw [if_pos hn, e]
    rfl
  · have e : (decide (n < 1) || decide (n > 6)) = false := by simp; omega
    rw [if_neg hn, e, if_neg (by decide)]
    rw [scan_all R (fun y => validL (toC y) n) (([] : List Int), (1:Int)) (fun k hk => ?_) (if_neg (by simp))]
    · have hm : ((R.map toC).all fun y => validL y n) = R.all fun y => validL (toC y) n := by rw [List.all_map]; rfl
      rw [hm]
      cases hv : (R.all fun y => validL (toC y) n) with
      | false => rfl
      | true =>
        have hv6 : ∀ y ∈ R, VL (toC y) 6 := fun y hy => vl6 (validL_iff.1 (List.all_eq_true.1 hv y hy)) (by omega)
        rw [if_pos rfl]
        simp only [Option.bind_some]
        rw [if_neg (show ¬ (true = false) by decide), List.length_map]
        by_cases h24 : 24 < R.length
        · rw [if_pos (by simp; omega), if_pos h24]
        · rw [if_neg (by simp; omega), if_neg h24, rKept_is hl hv6]
          simp only [Option.bind_some]
          cases hs : tell (Sat (R.map toC)) with
          | true => rfl
          | false =>
            rw [if_neg (show ¬ (false = true) by decide), if_neg (show ¬ (false = true) by decide)]
            have hns := tell_f.1 hs
            have hne := clashS_ne hns
            have hf := first_of (ρ := List Int × Int) (fun m => firstS (R.map toC) m [] 0) (fun F => (ints F, (0:Int))) (body := (fun (s33 : Int) => ((if (decide (s33 ≤ (R.length : Int))) = true then (fref13_first R ([] : (List Int)) (0:Int) s33).bind fun t41 => (if (decide ((t41.length : Int) > (0:Int))) = true then (some (.inr (.inr (t41, (0:Int))))) else (some (.inl (IntKind.i64.wrap (s33 + (1:Int)))))) else (some (.inr (.inl ())))) : Option ((Int) ⊕ ((Unit) ⊕ ((List Int) × Int)))))) R.length 1 (fun i h1 h2 => ?_) ?_
            · have hc : clashS (R.map toC) = tryS (fun m => firstS (R.map toC) m [] 0) (List.range' 1 R.length) := by unfold clashS; rw [List.length_map]
              rw [← hc, if_pos hne] at hf
              exact (congrArg (Option.bind · _) hf).trans rfl
            · have h0 := rfirst_is (R := R) (by omega) hv6 i ((i : Int).natAbs + 2) [] 0 (by omega) (sok_nil _) (by omega)
              have h0' : fref13_first R ([] : List Int) (0:Int) (i : Int) = some (ints (firstS (R.map toC) i [] 0)) := h0
              rw [if_pos (by simp; omega), h0']
              simp only [Option.bind_some]
              by_cases hne : firstS (R.map toC) i [] 0 ≠ []
              · rw [if_pos hne, if_pos]
                have := List.length_pos_iff.2 hne
                rw [ints_len]; simp; omega
              · rw [if_neg hne, if_neg (by rw [Classical.not_not.1 hne]; decide), w64_succ (n := i + 1) (by omega) (by omega)]
            · rw [if_neg (by simp; omega)]
    · rw [if_pos (by simpa using hk), idx_lt hk]
      have hv : fref13_Valid R[k] n = some (validL (toC R[k]) n) := rfl
      simp only [Option.bind_some, hv, w64_succ hk (show R.length ≤ 9223372036854775807 by omega)]
      cases validL (toC R[k]) n <;> rfl
theorem sameInts_self {a : List Int} (ha : a.length ≤ 1000000) : fref01_SameInts a a = some true := by
  unfold fref01_SameInts
  rw [if_neg (by simp), scan_all a (fun _ => true) false (fun k hk => ?_) (if_neg (by simp))]
  · rw [if_pos (by simp)]
    rfl
  · rw [if_pos rfl, if_pos (by simpa using hk), idx_lt hk]
    simp only [Option.bind_some]
    rw [if_neg (by simp), w64_succ hk (by omega)]
theorem clashR_len {n : Int} {L : List Scounts_Limit} : (clashR n L).1.length ≤ 1000000 := by
  unfold clashR
  split
  · simp
  · split
    · simp
    · split
      · simp
      · split
        · simp
        · rename_i h1 h2 h3 h4
          obtain ⟨g, m, _, _, g3, _, g5⟩ := clashS_ok (L := L) (fun h => h4 (tell_iff.2 h))
          show (ints (clashS L)).length ≤ _
          rw [ints_len]; omega

theorem clashes_true (l : List Int) (n : Int) (odd : Scounts_Limit) (many : Int) (i0 : ∀ x ∈ l, I64 x) (i1 : I64 n) (_ : I64 odd.A ∧ I64 odd.B ∧ I64 odd.Mul) (i3 : I64 many) : flaw13_CountsClashes l n odd many = some true := by
  have main : Ok (flaw13_CountsClashes l n odd many) (fun r => r = true) := by
    unfold flaw13_CountsClashes
    refine Ok.arnd i1 (by decide) fun k k0 k1 => ?_
    rw [w64 (n := 1 + k) (by omega) (by omega)]
    refine (made_ok i0 (by omega) (by omega)).bind fun ls hls => ?_
    refine Ok.arnd i3 (by decide) fun c c0 c1 => ?_
    rw [w64 (n := 20 + c) (by omega) (by omega)]
    refine Ok.mk' (by omega) (by omega) ?_
    have hl := hls.1
    refine Ok.rm (by simp; omega) ?_
    show Ok ((some (Sref13_Limit.mk odd.A odd.B odd.Mul odd.Least)).bind _) _
    simp only [Option.bind_some]
    refine Ok.rm (by simp; omega) ?_
    obtain ⟨C, hC⟩ : ∃ C, [ls, (([] : List Sref13_Limit) ++ ls) ++ [Sref13_Limit.mk odd.A odd.B odd.Mul odd.Least], List.replicate (20 + c).toNat (Sref13_Limit.mk 0 0 0 false), ([] : (List Sref13_Limit))] = C := ⟨_, rfl⟩
    have hCl : ∀ x ∈ C, x.length ≤ 1000000 := by
      rw [← hC]
      intro x hx
      simp only [List.mem_cons, List.not_mem_nil, or_false] at hx
      rcases hx with rfl | rfl | rfl | rfl <;> first | (simp; done) | (simp; omega) | omega
    have hCn : C.length ≤ 1000000 := by rw [← hC]; simp
    rw [hC]
    obtain ⟨d, hd, d0, d1⟩ := arnd_ok (n := 9) i3
    rw [hd]
    rw [scan_all C (fun _ => true) false (fun j hj => ?_) (if_neg (by simp))]
    · rw [if_pos (by simp)]
      show Ok (flaw13_lives.bind fun t90 => some t90) _
      rw [lives_true]; exact Ok.mk rfl
    · rw [if_pos rfl, if_pos (by simpa using hj)]
      simp only [Option.bind_some]
      have hcj := hCl _ (List.getElem_mem hj)
      obtain ⟨Z, hZ⟩ : ∃ Z, [1 + k, n, IntKind.i64.wrap (d - 1)] = Z := ⟨_, rfl⟩
      have hZn : Z.length = 3 := by rw [← hZ]; rfl
      rw [hZ]
      rw [scan_all Z (fun _ => true) false (fun i hi => ?_) (if_neg (by rw [hZn]; simp))]
      · rw [if_pos (by simp), w64_succ hj (by omega)]
        rfl
      · rw [if_pos rfl, if_pos (by simp; omega), idx_lt hi, idx_lt hj]
        have hcl : (C[j].map toC).length ≤ 1000000 := by simpa using hcj
        simp only [Option.bind_some, given_is hcj, Clash_is hcl, rClash_is hcj, bne_self_eq_false, show (false == false) = true from rfl, opt_true, sameInts_self clashR_len]
        rw [if_neg (by decide), w64_succ hi (by omega)]
  obtain ⟨r, hr, rfl⟩ := main
  exact hr

end Go.Proofs.YtcdccjagknlmpaaGreatDoor
