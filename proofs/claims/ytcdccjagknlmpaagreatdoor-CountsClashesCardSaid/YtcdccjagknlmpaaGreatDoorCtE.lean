/- Counts: the model's way of looking whether some numbers keep limits. No condition. -/
import Derived.Test.YtcdccjagknlmpaaGreatDoorCtD
namespace Go.Proofs.YtcdccjagknlmpaaGreatDoor
open Go.Sim

theorem demand_is {y : Sref13_Limit} {a : List Int} (hy : VL (toC y) 6) (ha : Vec a) : fref13_demand y a = some (dem (toC y) a) := by
  have h1 : 0 ≤ y.A := hy.a0
  have h2 : y.A < 6 := hy.a1
  have h3 : -1 ≤ y.B := hy.b0
  have h4 : y.B < 6 := hy.b1
  have h5 : 0 ≤ y.Mul := hy.m0
  have h6 : y.Mul ≤ 65536 := hy.m1
  unfold fref13_demand dem
  show _ = some (if y.B < 0 ∧ y.Least = true then (y.A, y.Mul) else if y.Least = true then (y.A, y.Mul * nth a y.B) else if 0 ≤ y.B ∧ 0 < y.Mul then (y.B, (nth a y.A + y.Mul - 1) / y.Mul) else (y.A, 0))
  have g : ∀ i, 0 ≤ i → i < 6 → idx a i = some (nth a i) := fun i h0 h1 => idx_nth h0 (by rw [ha.len]; exact h1)
  cases hL : y.Least with
  | true =>
    by_cases hb : y.B < 0
    · rw [if_pos (by simpa using hb), if_pos ⟨hb, rfl⟩]
    · rw [if_neg (by simpa using hb), if_pos rfl, if_neg (fun h => hb h.1), if_pos rfl, g _ (by omega) h4]
      have hm := mul_num h5 h6 (ha.nth (by omega) h4).1 (ha.nth (by omega) h4).2
      simp only [Option.bind_some]
      rw [w64 (by omega) (by omega)]
  | false =>
    simp only [Bool.false_and, Bool.false_eq_true, if_false, and_false]
    by_cases h : 0 ≤ y.B ∧ 0 < y.Mul
    · rw [if_pos (by simpa using h), if_pos h, g _ h1 h2]
      have hn := ha.nth h1 h2
      simp only [Option.bind_some]
      rw [nz_of (by omega)]
      simp only [Option.bind_some]
      rw [w64 (n := nth a y.A + y.Mul) (by omega) (by omega), w64 (n := nth a y.A + y.Mul - 1) (by omega) (by omega), Int.tdiv_eq_ediv_of_nonneg (by omega)]
      have h0 : 0 ≤ (nth a y.A + y.Mul - 1) / y.Mul := Int.ediv_nonneg (by omega) (by omega)
      have h1 : (nth a y.A + y.Mul - 1) / y.Mul ≤ nth a y.A + y.Mul - 1 := Int.ediv_le_self _ (by omega)
      rw [w64 (by omega) (by omega)]
    · rw [if_neg (by simp only [Bool.and_eq_true, decide_eq_true_eq]; exact h), if_neg h]
theorem all_mem {α : Type} : ∀ {l : List α} {p q : α → Bool} (_ : ∀ x ∈ l, p x = q x), l.all p = l.all q
  | [], _, _, _ => rfl
  | x :: l, p, q, h => by rw [List.all_cons, List.all_cons, h x (List.mem_cons_self ..), all_mem fun y hy => h y (List.mem_cons_of_mem _ hy)]
theorem all_is {R : List Sref13_Limit} {c : List Int} (hc : c.length ≤ 1000000) (hR : R.length ≤ 1000000) : fref13_All R c = some (R.all fun y => holdsS (toC y) c) := by
  unfold fref13_All
  rw [scan_all R (fun y => holdsS (toC y) c) false (fun k hk => ?_) (if_neg (by simp))]
  · cases R.all fun y => holdsS (toC y) c <;> rfl
  · rw [if_pos (by simpa using hk), idx_lt hk]
    simp only [Option.bind_some, rHolds_is hc, w64_succ hk (show R.length ≤ 9223372036854775807 by omega)]
    cases holdsS (toC R[k]) c <;> rfl

theorem rKept_ok {R : List Sref13_Limit} (hl : R.length ≤ 1000000) (hR : ∀ y ∈ R, VL (toC y) 6) : Ok (fref13_Kept R) (fun b => b = true ↔ Sat (R.map toC)) := by
  obtain ⟨L, hLe⟩ : ∃ L, R.map toC = L := ⟨_, rfl⟩
  have hlen : L.length = R.length := by rw [← hLe]; simp
  have hL : ∀ y ∈ L, VL y 6 := fun y hy => by rw [← hLe] at hy; obtain ⟨z, hz, rfl⟩ := List.mem_map.1 hy; exact hR z hz
  have hget : ∀ i (h : i < L.length), L[i] = toC (R[i]'(by omega)) := fun i h => by subst hLe; simp
  rw [hLe]
  unfold fref13_Kept
  rw [show mk (6:Int) (0:Int) = some [0, 0, 0, 0, 0, 0] from rfl]
  simp only [Option.bind_some]
  refine Ok.bind (P := fun r : List Int ⊕ Bool => match r with | .inl a => KInv L a ∧ ∀ y ∈ L, (dem y a).2 ≤ nth a (dem y a).1 | .inr b => b = false ∧ ¬ Sat L)
    (Ok.loop (fun m s => KInv L s.2 ∧ (s.1 = false → ∀ y ∈ L, (dem y s.2).2 ≤ nth s.2 (dem y s.2).1) ∧ (if s.1 = true then 1 else 0) + (393216 - s.2.sum).toNat = m) 393217 ⟨KInv.zero, (fun h => nomatch h), rfl⟩ fun m s hs => ?_) (fun r hr => ?_)
  · obtain ⟨h1, h2, h3⟩ := hs
    refine Ok.ite (fun hc => ?_) (fun hc => Ok.mk ⟨h1, h2 hc⟩)
    rw [if_pos hc] at h3
    refine Ok.bind (P := fun r : (Bool × List Int) ⊕ Bool => match r with | .inl p => KInv L p.2 ∧ (p.1 = false → p.2 = s.2 ∧ ∀ y ∈ L, (dem y p.2).2 ≤ nth p.2 (dem y p.2).1) ∧ (p.1 = true → s.2.sum < p.2.sum) | .inr b => b = false ∧ ¬ Sat L)
      (Ok.loop (fun k t => 0 ≤ t.1 ∧ t.1 + k = L.length ∧ KInv L t.2.2 ∧ (t.2.1 = false → t.2.2 = s.2 ∧ ∀ i (h : i < L.length), i < t.1.toNat → (dem L[i] t.2.2).2 ≤ nth t.2.2 (dem L[i] t.2.2).1) ∧ (t.2.1 = true → s.2.sum < t.2.2.sum)) L.length
        ⟨Int.le_refl _, by simp, h1, fun _ => ⟨rfl, fun i _ hi => by simp at hi⟩, fun h => by cases h⟩ fun k t ht => ?_) (fun r hr => ?_)
    · obtain ⟨g1, g2, g3, g4, g5⟩ := ht
      refine Ok.ite (fun hd => ?_) (fun hd => ?_)
      · have hd : t.1 < R.length := of_decide_eq_true hd
        obtain ⟨j, hj⟩ := Int.eq_ofNat_of_zero_le g1
        have hjl : j < L.length := by omega
        have hjr : j < R.length := by omega
        have hy := hL _ (List.getElem_mem hjl)
        rw [hj, idx_lt hjr]
        simp only [Option.bind_some, demand_is (show VL (toC R[j]) 6 by rw [← hget j hjl]; exact hy) g3.vec, ← hget j hjl]
        have hk := dem_ok hy g3.vec
        refine Ok.ite (fun ho => Ok.mk ⟨rfl, g3.over hy (List.getElem_mem hjl) (of_decide_eq_true ho)⟩) (fun ho => ?_)
        have ho : ¬ 65536 < (dem L[j] t.2.2).2 := of_decide_eq_false ho
        rw [idx_nth hk.1 (by rw [g3.vec.len]; exact hk.2.1)]
        simp only [Option.bind_some]
        refine Ok.bind (P := fun p : Bool × List Int => KInv L p.2 ∧ (p.1 = false → p.2 = s.2 ∧ ∀ i (h : i < L.length), i < j + 1 → (dem L[i] p.2).2 ≤ nth p.2 (dem L[i] p.2).1) ∧ (p.1 = true → s.2.sum < p.2.sum)) (Ok.ite (fun hg => ?_) (fun hg => ?_)) (fun p hp => ?_)
        · have hg := of_decide_eq_true hg
          obtain ⟨e1, e2⟩ := g3.step hy (List.getElem_mem hjl) ho hg
          refine Ok.setAt hk.1 (by rw [g3.vec.len]; exact hk.2.1) (Ok.mk ⟨e1, (fun h => nomatch h), fun _ => ?_⟩)
          cases hb : t.2.1 with
          | true => exact Int.lt_trans (g5 hb) e2
          | false => have := (g4 hb).1; rw [← this]; exact e2
        · have hg := of_decide_eq_false hg
          refine Ok.mk ⟨g3, fun h => ⟨(g4 h).1, fun i hi hij => ?_⟩, g5⟩
          by_cases e : i = j
          · subst e; exact Int.not_lt.1 hg
          · exact (g4 h).2 i hi (by rw [hj]; omega)
        · refine Ok.mk ⟨k - 1, by omega, ?_⟩
          rw [w64_succ hjr (by omega)]
          refine ⟨by omega, by omega, hp.1, fun h => ⟨(hp.2.1 h).1, fun i hi hij => (hp.2.1 h).2 i hi (by simpa using hij)⟩, hp.2.2⟩
      · have hd : ¬ t.1 < R.length := of_decide_eq_false hd
        refine Ok.mk ⟨g3, fun h => ⟨(g4 h).1, fun y hy => ?_⟩, g5⟩
        obtain ⟨i, hi, rfl⟩ := List.getElem_of_mem hy
        exact (g4 h).2 i hi (by omega)
    · cases r with
      | inr b => exact Ok.mk hr
      | inl p =>
        obtain ⟨q1, q2, q3⟩ := hr
        have s1 := h1.vec.sum; have s2 := q1.vec.sum
        refine Ok.mk ⟨_, ?_, q1, fun h => (q2 h).2, rfl⟩
        show (if p.1 = true then 1 else 0) + (393216 - p.2.sum).toNat < m
        cases hb : p.1 with
        | true => have := q3 hb; simp only [if_true]; omega
        | false => have := (q2 hb).1; rw [this]; simp only [Bool.false_eq_true, if_false]; omega
  · cases r with
    | inr b => exact Ok.mk (by rw [hr.1]; exact ⟨(fun h => nomatch h), fun h => (hr.2 h).elim⟩)
    | inl a =>
      obtain ⟨q1, q2⟩ := hr
      show Ok ((fref13_All R a).bind fun t39 => some t39) _
      rw [all_is (by rw [q1.vec.len]; omega) hl]
      refine Ok.mk ?_
      rw [show (R.all fun y => holdsS (toC y) a) = L.all fun y => keepS y a by
        rw [← hLe, List.all_map]
        refine all_mem fun y hy => ?_
        show ((validL (toC y) a.length && numL a) && keepS (toC y) a) = keepS (toC y) a
        rw [validL_iff.2 ((hR y hy).vec q1.vec), numL_iff.2 q1.vec.num]; rfl]
      exact q1.fin hL q2

end Go.Proofs.YtcdccjagknlmpaaGreatDoor
