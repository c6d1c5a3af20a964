/- Counts: some numbers keep limits exactly if the least ones that are demanded do: both ways of looking. No condition. -/
import Derived.Test.YtcdccjagknlmpaaGreatDoorCtA
namespace Go.Proofs.YtcdccjagknlmpaaGreatDoor
open Go.Sim

theorem sum_set : ∀ (l : List Int) (k : Nat) (h : k < l.length) (n : Int), (l.set k n).sum = l.sum + n - l[k]
  | x :: l, 0, _, n => by simp; omega
  | x :: l, k + 1, h, n => by
    have := sum_set l k (by simpa using h) n
    simp only [List.set_cons_succ, List.sum_cons, List.getElem_cons_succ, this]
    omega
theorem nth_get {l : List Int} {k : Nat} (h : k < l.length) : nth l (k : Int) = l[k] := by simp [nth, List.getD_eq_getElem?_getD, h]
theorem nth_set {l : List Int} {i j n : Int} (hi : 0 ≤ i) (hj : 0 ≤ j) (h : i < l.length) : nth (l.set i.toNat n) j = if i = j then n else nth l j := by
  obtain ⟨a, rfl⟩ := Int.eq_ofNat_of_zero_le hi
  obtain ⟨b, rfl⟩ := Int.eq_ofNat_of_zero_le hj
  unfold nth
  simp only [Int.toNat_natCast, List.getD_eq_getElem?_getD, List.getElem?_set]
  by_cases e : a = b
  · subst e; have : a < l.length := by omega
    simp [this]
  · have e' : ¬ ((a : Int) = (b : Int)) := by omega
    rw [if_neg e, if_neg e']

/-- Six numbers. -/
structure Vec (v : List Int) : Prop where
  len : v.length = 6
  num : ∀ z ∈ v, 0 ≤ z ∧ z ≤ 65536
def VLe (v x : List Int) : Prop := ∀ i, 0 ≤ i → i < 6 → nth v i ≤ nth x i
structure Sol (L : List Scounts_Limit) (x : List Int) : Prop where
  vec : Vec x
  keep : ∀ y ∈ L, keepS y x = true
def Sat (L : List Scounts_Limit) : Prop := ∃ x, Sol L x
theorem Sat.sub {L M : List Scounts_Limit} (h : Sat L) (hs : ∀ y ∈ M, y ∈ L) : Sat M := by
  obtain ⟨x, hx⟩ := h
  exact ⟨x, hx.vec, fun y hy => hx.keep y (hs y hy)⟩
theorem Vec.nth {v : List Int} (h : Vec v) {i : Int} (h0 : 0 ≤ i) (h1 : i < 6) : 0 ≤ nth v i ∧ nth v i ≤ 65536 := nth_num h.num h0 (by rw [h.len]; exact h1)
theorem Vec.set {v : List Int} (h : Vec v) {k n : Int} (n0 : 0 ≤ n) (n1 : n ≤ 65536) : Vec (v.set k.toNat n) := ⟨by simp [h.len], fun z hz => by
  rcases List.mem_or_eq_of_mem_set hz with hz | rfl
  · exact h.num z hz
  · exact ⟨n0, n1⟩⟩
theorem Vec.sum {v : List Int} (h : Vec v) : 0 ≤ v.sum ∧ v.sum ≤ 393216 := by
  have := Sm.sum (l := v) (B := 65536) h.num
  rw [h.len] at this
  omega

/-- The least number of a kind that a limit demands. -/
def dem (y : Scounts_Limit) (v : List Int) : Int × Int :=
  if y.B < 0 ∧ y.Least = true then (y.A, y.Mul) else if y.Least = true then (y.A, y.Mul * nth v y.B) else if 0 ≤ y.B ∧ 0 < y.Mul then (y.B, (nth v y.A + y.Mul - 1) / y.Mul) else (y.A, 0)
theorem ceil_le {a m x : Int} (hm : 0 < m) : (a + m - 1) / m ≤ x ↔ a ≤ m * x := by
  constructor
  · intro h
    have h1 := Int.lt_mul_ediv_self_add (x := a + m - 1) hm
    have h2 : m * ((a + m - 1) / m) ≤ m * x := Int.mul_le_mul_of_nonneg_left h (by omega)
    omega
  · intro h
    have h1 : (a + m - 1) / m < x + 1 := by
      rw [Int.ediv_lt_iff_lt_mul hm, Int.add_mul, Int.one_mul, Int.mul_comm x m]
      omega
    omega
theorem dem_ok {y : Scounts_Limit} {v : List Int} (hy : VL y 6) (hv : Vec v) : 0 ≤ (dem y v).1 ∧ (dem y v).1 < 6 ∧ 0 ≤ (dem y v).2 := by
  have := hy.a0; have := hy.a1; have := hy.b0; have := hy.b1; have := hy.m0
  unfold dem
  split
  · exact ⟨hy.a0, hy.a1, hy.m0⟩
  · split
    · refine ⟨hy.a0, hy.a1, ?_⟩
      by_cases hb : 0 ≤ y.B
      · exact Int.mul_nonneg hy.m0 (hv.nth hb hy.b1).1
      · rename_i h1 h2
        exact absurd ⟨by omega, h2⟩ h1
    · split
      · rename_i h
        exact ⟨h.1, hy.b1, Int.ediv_nonneg (by have := (hv.nth hy.a0 hy.a1).1; omega) (by omega)⟩
      · exact ⟨hy.a0, hy.a1, Int.le_refl _⟩
theorem dem_le {y : Scounts_Limit} {v x : List Int} (hy : VL y 6) (hx : Vec x) (hk : keepS y x = true) (hle : VLe v x) : (dem y v).2 ≤ nth x (dem y v).1 := by
  have := hy.a0; have := hy.a1; have := hy.b0; have := hy.b1; have := hy.m0
  unfold keepS bndS at hk
  unfold dem
  split
  · rename_i h
    rw [if_pos h.2, if_pos h.1] at hk
    simpa using hk
  · rename_i h0
    split
    · rename_i h
      have hb : ¬ y.B < 0 := fun hb => h0 ⟨hb, h⟩
      rw [if_pos h, if_neg hb] at hk
      have h1 : y.Mul * nth v y.B ≤ y.Mul * nth x y.B := Int.mul_le_mul_of_nonneg_left (hle _ (by omega) hy.b1) hy.m0
      have h2 : nth x y.A ≥ y.Mul * nth x y.B := of_decide_eq_true hk
      show y.Mul * nth v y.B ≤ nth x y.A
      omega
    · rename_i hL
      split
      · rename_i h
        rw [if_neg hL, if_neg (by omega)] at hk
        have h2 : nth x y.A ≤ y.Mul * nth x y.B := of_decide_eq_true hk
        have h3 := hle _ hy.a0 hy.a1
        show (nth v y.A + y.Mul - 1) / y.Mul ≤ nth x y.B
        exact (ceil_le h.2).2 (by omega)
      · exact (hx.nth hy.a0 hy.a1).1
theorem dem_keep {y : Scounts_Limit} {v x : List Int} (hy : VL y 6) (hx : keepS y x = true) (hle : VLe v x) (hd : (dem y v).2 ≤ nth v (dem y v).1) : keepS y v = true := by
  have := hy.a0; have := hy.a1; have := hy.b0; have := hy.b1; have := hy.m0
  have ha := hle _ hy.a0 hy.a1
  unfold dem at hd
  unfold keepS bndS at *
  by_cases hL : y.Least = true
  · rw [if_pos hL]
    by_cases hb : y.B < 0
    · rw [if_pos ⟨hb, hL⟩] at hd
      rw [if_pos hb]; exact decide_eq_true hd
    · rw [if_neg (fun h => hb h.1), if_pos hL] at hd
      rw [if_neg hb]; exact decide_eq_true hd
  · rw [if_neg (fun h => hL h.2), if_neg hL] at hd
    rw [if_neg hL] at hx ⊢
    by_cases hb : y.B < 0
    · rw [if_pos hb] at hx ⊢
      have hx : nth x y.A ≤ y.Mul := of_decide_eq_true hx
      exact decide_eq_true (by omega)
    · rw [if_neg hb] at hx ⊢
      have hx : nth x y.A ≤ y.Mul * nth x y.B := of_decide_eq_true hx
      by_cases hm : 0 < y.Mul
      · rw [if_pos ⟨by omega, hm⟩] at hd
        exact decide_eq_true ((ceil_le hm).1 hd)
      · have hm : y.Mul = 0 := by omega
        rw [hm] at hx ⊢
        exact decide_eq_true (by omega)

/-- What is known between two steps. -/
structure KInv (L : List Scounts_Limit) (v : List Int) : Prop where
  vec : Vec v
  le : ∀ x, Sol L x → VLe v x
theorem KInv.over {L : List Scounts_Limit} {v : List Int} (h : KInv L v) {y : Scounts_Limit} (hy : VL y 6) (hm : y ∈ L) (hn : 65536 < (dem y v).2) : ¬ Sat L := by
  rintro ⟨x, hx⟩
  have h1 := dem_le hy hx.vec (hx.keep y hm) (h.le x hx)
  have h2 := dem_ok hy h.vec
  have h3 := (hx.vec.nth h2.1 h2.2.1).2
  omega
theorem KInv.step {L : List Scounts_Limit} {v : List Int} (h : KInv L v) {y : Scounts_Limit} (hy : VL y 6) (hm : y ∈ L) (hn : ¬ 65536 < (dem y v).2) (hg : nth v (dem y v).1 < (dem y v).2) :
    KInv L (v.set (dem y v).1.toNat (dem y v).2) ∧ v.sum < (v.set (dem y v).1.toNat (dem y v).2).sum := by
  have h2 := dem_ok hy h.vec
  refine ⟨⟨h.vec.set h2.2.2 (by omega), fun x hx i i0 i1 => ?_⟩, ?_⟩
  · rw [nth_set h2.1 i0 (by rw [h.vec.len]; exact h2.2.1)]
    split
    · rename_i e; rw [← e]; exact dem_le hy hx.vec (hx.keep y hm) (h.le x hx)
    · exact h.le x hx i i0 i1
  · have hlt : (dem y v).1.toNat < v.length := by rw [h.vec.len]; omega
    rw [sum_set v _ hlt]
    have e : nth v (dem y v).1 = v[(dem y v).1.toNat] := by
      have := nth_get hlt
      rwa [Int.toNat_of_nonneg h2.1] at this
    omega
theorem KInv.fin {L : List Scounts_Limit} {v : List Int} (h : KInv L v) (hL : ∀ y ∈ L, VL y 6) (hd : ∀ y ∈ L, (dem y v).2 ≤ nth v (dem y v).1) : (L.all fun y => keepS y v) = true ↔ Sat L := by
  constructor
  · intro ha
    exact ⟨v, h.vec, fun y hy => List.all_eq_true.1 ha y hy⟩
  · rintro ⟨x, hx⟩
    exact List.all_eq_true.2 fun y hy => dem_keep (hL y hy) (hx.keep y hy) (h.le x hx) (hd y hy)
theorem KInv.zero {L : List Scounts_Limit} : KInv L [0, 0, 0, 0, 0, 0] := by
  refine ⟨⟨rfl, fun z hz => ?_⟩, fun x hx i i0 i1 => ?_⟩
  · simp at hz; omega
  · have e : nth [0, 0, 0, 0, 0, 0] i = 0 := by
      obtain ⟨k, rfl⟩ := Int.eq_ofNat_of_zero_le i0
      match k, (show k < 6 by omega) with
      | 0, _ => rfl
      | 1, _ => rfl
      | 2, _ => rfl
      | 3, _ => rfl
      | 4, _ => rfl
      | 5, _ => rfl
    rw [e]; exact (hx.vec.nth i0 i1).1

/-! The program's way -/

theorem up_is {y : Scounts_Limit} {a : Scounts_numbers} (hy : VL y 6) (ha : Vec a.L) : fcounts_Limit_up y a = some (dem y a.L) := by
  have := hy.a0; have := hy.a1; have := hy.b0; have := hy.b1; have := hy.m0; have := hy.m1
  unfold fcounts_Limit_up dem
  have g : ∀ i, 0 ≤ i → i < 6 → idx a.L i = some (nth a.L i) := fun i h0 h1 => idx_nth h0 (by rw [ha.len]; exact h1)
  cases hL : y.Least with
  | true =>
    by_cases hb : y.B < 0
    · rw [if_pos (by simpa using hb), if_pos ⟨hb, rfl⟩]
    · rw [if_neg (by simpa using hb), if_pos rfl, if_neg (fun h => hb h.1), if_pos rfl, g _ (by omega) hy.b1]
      have hm := mul_num hy.m0 hy.m1 (ha.nth (by omega) hy.b1).1 (ha.nth (by omega) hy.b1).2
      simp only [Option.bind_some]
      rw [w64 (by omega) (by omega)]
  | false =>
    simp only [Bool.and_false, Bool.false_eq_true, if_false, and_false]
    by_cases h : 0 ≤ y.B ∧ 0 < y.Mul
    · rw [if_pos (by simpa using h), if_pos h, g _ hy.a0 hy.a1]
      have hn := ha.nth hy.a0 hy.a1
      simp only [Option.bind_some]
      rw [nz_of (by omega)]
      simp only [Option.bind_some]
      rw [w64 (n := nth a.L y.A + y.Mul) (by omega) (by omega), w64 (n := nth a.L y.A + y.Mul - 1) (by omega) (by omega), Int.tdiv_eq_ediv_of_nonneg (by omega)]
      have h0 : 0 ≤ (nth a.L y.A + y.Mul - 1) / y.Mul := Int.ediv_nonneg (by omega) (by omega)
      have h1 : (nth a.L y.A + y.Mul - 1) / y.Mul ≤ nth a.L y.A + y.Mul - 1 := Int.ediv_le_self _ (by omega)
      rw [w64 (by omega) (by omega)]
    · rw [if_neg (by simp only [Bool.and_eq_true, decide_eq_true_eq]; exact h), if_neg h]
theorem setI_L {a : Scounts_numbers} {k n : Int} (h0 : 0 ≤ k) (h1 : k < 6) : (a.setI k n).L = a.L.set k.toNat n := by
  obtain ⟨j, rfl⟩ := Int.eq_ofNat_of_zero_le h0
  match j, (show j < 6 by omega) with
  | 0, _ => rfl
  | 1, _ => rfl
  | 2, _ => rfl
  | 3, _ => rfl
  | 4, _ => rfl
  | 5, _ => rfl
theorem anyLimit {s : List Scounts_Limit} {f : Scounts_Limit → Option Bool} {p : Scounts_Limit → Bool} (hs : s.length ≤ 1000000) (hf : ∀ x ∈ s, f x = some (p x)) : fslices_ContainsFunc_Limit s f = some (s.any p) := by
  unfold fslices_ContainsFunc_Limit fslices_IndexFunc_Limit
  rw [first_loop s p (fun k hk => ?_) ?_]
  · rw [← fIx_any]; unfold fIx; cases s.findIdx? p <;> rfl
  · rw [if_neg (by simp)]
  · rw [if_pos (by simpa using hk), idx_lt hk]
    show (f s[k]).bind _ = _
    rw [hf _ (List.getElem_mem hk), w64_succ hk (by omega)]; rfl

theorem VL.vec {y : Scounts_Limit} {v : List Int} (h : VL y 6) (hv : Vec v) : VL y v.length := by rw [hv.len]; exact h
theorem kept_ok {L : List Scounts_Limit} (hl : L.length ≤ 1000000) (hL : ∀ y ∈ L, VL y 6) : Ok (fcounts_kept L) (fun b => b = true ↔ Sat L) := by
  unfold fcounts_kept
  refine Ok.bind (P := fun r : Scounts_numbers ⊕ Bool => match r with | .inl a => KInv L a.L ∧ ∀ y ∈ L, (dem y a.L).2 ≤ nth a.L (dem y a.L).1 | .inr b => b = false ∧ ¬ Sat L)
    (Ok.loop (fun m s => KInv L s.2.L ∧ (s.1 = false → ∀ y ∈ L, (dem y s.2.L).2 ≤ nth s.2.L (dem y s.2.L).1) ∧ (if s.1 = true then 1 else 0) + (393216 - s.2.L.sum).toNat = m) 393217 ⟨KInv.zero, (fun h => nomatch h), rfl⟩ fun m s hs => ?_) (fun r hr => ?_)
  · obtain ⟨h1, h2, h3⟩ := hs
    refine Ok.ite (fun hc => ?_) (fun hc => Ok.mk ⟨h1, h2 hc⟩)
    rw [if_pos hc] at h3
    refine Ok.bind (P := fun r : (Bool × Scounts_numbers) ⊕ Bool => match r with | .inl p => KInv L p.2.L ∧ (p.1 = false → p.2.L = s.2.L ∧ ∀ y ∈ L, (dem y p.2.L).2 ≤ nth p.2.L (dem y p.2.L).1) ∧ (p.1 = true → s.2.L.sum < p.2.L.sum) | .inr b => b = false ∧ ¬ Sat L)
      (Ok.loop (fun k t => 0 ≤ t.1 ∧ t.1 + k = L.length ∧ KInv L t.2.2.L ∧ (t.2.1 = false → t.2.2.L = s.2.L ∧ ∀ i (h : i < L.length), i < t.1.toNat → (dem L[i] t.2.2.L).2 ≤ nth t.2.2.L (dem L[i] t.2.2.L).1) ∧ (t.2.1 = true → s.2.L.sum < t.2.2.L.sum)) L.length
        ⟨Int.le_refl _, by simp, h1, fun _ => ⟨rfl, fun i _ hi => by simp at hi⟩, fun h => by cases h⟩ fun k t ht => ?_) (fun r hr => ?_)
    · obtain ⟨g1, g2, g3, g4, g5⟩ := ht
      refine Ok.ite (fun hd => ?_) (fun hd => ?_)
      · have hd : t.1 < L.length := of_decide_eq_true hd
        obtain ⟨j, hj⟩ := Int.eq_ofNat_of_zero_le g1
        have hjl : j < L.length := by omega
        have hy := hL _ (List.getElem_mem hjl)
        rw [hj, idx_lt hjl]
        simp only [Option.bind_some, up_is hy g3.vec]
        have hk := dem_ok hy g3.vec
        refine Ok.ite (fun ho => Ok.mk ⟨rfl, g3.over hy (List.getElem_mem hjl) (of_decide_eq_true ho)⟩) (fun ho => ?_)
        have ho : ¬ 65536 < (dem L[j] t.2.2.L).2 := of_decide_eq_false ho
        rw [idx_nth hk.1 (by rw [g3.vec.len]; exact hk.2.1)]
        simp only [Option.bind_some]
        refine Ok.bind (P := fun p : Bool × Scounts_numbers => KInv L p.2.L ∧ (p.1 = false → p.2.L = s.2.L ∧ ∀ i (h : i < L.length), i < j + 1 → (dem L[i] p.2.L).2 ≤ nth p.2.L (dem L[i] p.2.L).1) ∧ (p.1 = true → s.2.L.sum < p.2.L.sum)) (Ok.ite (fun hg => ?_) (fun hg => ?_)) (fun p hp => ?_)
        · have hg := of_decide_eq_true hg
          obtain ⟨e1, e2⟩ := g3.step hy (List.getElem_mem hjl) ho hg
          refine Ok.mk ?_
          have e := setI_L (a := t.2.2) (n := (dem L[j] t.2.2.L).2) hk.1 hk.2.1
          refine ⟨by rw [e]; exact e1, (fun h => nomatch h), fun _ => ?_⟩
          rw [e]
          cases hb : t.2.1 with
          | true => have := g5 hb; omega
          | false => have := (g4 hb).1; rw [← this]; exact e2
        · have hg := of_decide_eq_false hg
          refine Ok.mk ⟨g3, fun h => ⟨(g4 h).1, fun i hi hij => ?_⟩, g5⟩
          by_cases e : i = j
          · subst e; exact Int.not_lt.1 hg
          · exact (g4 h).2 i hi (by rw [hj]; omega)
        · refine Ok.mk ⟨k - 1, by omega, ?_⟩
          rw [w64_succ hjl (by omega)]
          refine ⟨by omega, by omega, hp.1, fun h => ⟨(hp.2.1 h).1, fun i hi hij => (hp.2.1 h).2 i hi (by simpa using hij)⟩, hp.2.2⟩
      · have hd : ¬ t.1 < L.length := of_decide_eq_false hd
        refine Ok.mk ⟨g3, fun h => ⟨(g4 h).1, fun y hy => ?_⟩, g5⟩
        obtain ⟨i, hi, rfl⟩ := List.getElem_of_mem hy
        exact (g4 h).2 i hi (by omega)
    · cases r with
      | inr b => exact Ok.mk hr
      | inl p =>
        obtain ⟨q1, q2, q3⟩ := hr
        have s1 := h1.vec.sum; have s2 := q1.vec.sum
        refine Ok.mk ⟨_, ?_, q1, fun h => (q2 h).2, rfl⟩
        show (if p.1 = true then 1 else 0) + (393216 - p.2.L.sum).toNat < m
        cases hb : p.1 with
        | true => have := q3 hb; simp only [if_true]; omega
        | false => have := (q2 hb).1; rw [this]; simp only [Bool.false_eq_true, if_false]; omega
  · cases r with
    | inr b => exact Ok.mk (by rw [hr.1]; exact ⟨(fun h => nomatch h), fun h => (hr.2 h).elim⟩)
    | inl a =>
      obtain ⟨q1, q2⟩ := hr
      show Ok ((fslices_ContainsFunc_Limit L fun x0 => fcounts_numbers_broken a x0).bind fun t36 => some (!t36)) _
      rw [anyLimit (f := fun x0 => fcounts_numbers_broken a x0) (p := fun y => !keepS y a.L) hl (fun y hy => by
        unfold fcounts_numbers_broken
        rw [keeps_is ((hL y hy).vec q1.vec) q1.vec.num]; rfl)]
      refine Ok.mk ?_
      rw [show (!L.any fun y => !keepS y a.L) = L.all fun y => keepS y a.L by rw [List.all_eq_not_any_not]]
      exact q1.fin hL q2

end Go.Proofs.YtcdccjagknlmpaaGreatDoor
