/- CountsBoth, its plain law: limits are kept by the lesser and the greater ones. No condition. -/
import Derived.Test.YtcdccjagknlmpaaGreatDoorCtA
import Derived.Test.YtcdccjagknlmpaaGreatDoorEvalA
namespace Go.Proofs.YtcdccjagknlmpaaGreatDoor
open Go.Sim

def zipM (f : Int → Int → Int) (x y : List Int) : List Int := List.zipWith f x y
theorem zipM_nth {f : Int → Int → Int} {x y : List Int} (hl : x.length = y.length) {i : Int} (h0 : 0 ≤ i) (h1 : i < x.length) : nth (zipM f x y) i = f (nth x i) (nth y i) := by
  have a : i.toNat < x.length := by omega
  have b : i.toNat < y.length := by omega
  unfold nth zipM
  have c : i.toNat < (List.zipWith f x y).length := by simp; omega
  simp only [List.getD_eq_getElem?_getD, List.getElem?_eq_getElem a, List.getElem?_eq_getElem b, List.getElem?_eq_getElem c, Option.getD_some, List.getElem_zipWith]
theorem zipM_num {f : Int → Int → Int} {x y : List Int} (hf : ∀ a b, f a b = a ∨ f a b = b) (hx : numL x = true) (hy : numL y = true) : numL (zipM f x y) = true := by
  rw [numL_iff] at *
  intro z hz
  unfold zipM at hz
  obtain ⟨k, hk, rfl⟩ := List.getElem_of_mem hz
  rw [List.getElem_zipWith]
  rw [List.length_zipWith] at hk
  rcases hf (x[k]) (y[k]) with e | e <;> rw [e]
  · exact hx _ (List.getElem_mem _)
  · exact hy _ (List.getElem_mem _)
theorem imin_or (a b : Int) : imin a b = a ∨ imin a b = b := by unfold imin; split <;> simp
theorem imax_or (a b : Int) : imax a b = a ∨ imax a b = b := by unfold imax; split <;> simp
theorem mul_mono {m a b : Int} (hm : 0 ≤ m) (h : a ≤ b) : m * a ≤ m * b := Int.mul_le_mul_of_nonneg_left h hm

/-- A valid limit that two lists of numbers keep is kept by the lesser and by the greater ones. -/
theorem both_keep {l : Scounts_Limit} {x y : List Int} (hl : x.length = y.length) (hx : holdsS l x = true) (hy : holdsS l y = true) : holdsS l (zipM imin x y) = true ∧ holdsS l (zipM imax x y) = true := by
  unfold holdsS at *
  simp only [Bool.and_eq_true] at *
  obtain ⟨⟨hv, nx⟩, kx⟩ := hx
  obtain ⟨⟨_, ny⟩, ky⟩ := hy
  have hv' := validL_iff.1 hv
  have len : ∀ f, (zipM f x y).length = x.length := fun f => by simp [zipM, hl]
  have val : ∀ f, validL l ((zipM f x y).length : Int) = true := fun f => by rw [len]; exact hv
  refine ⟨⟨⟨val _, zipM_num imin_or nx ny⟩, ?_⟩, ⟨⟨val _, zipM_num imax_or nx ny⟩, ?_⟩⟩
  all_goals
    unfold keepS bndS at *
    rw [zipM_nth hl hv'.a0 hv'.a1]
    by_cases hb : l.B < 0
    · simp only [if_pos hb] at *
      cases hL : l.Least <;> simp only [hL, if_true, Bool.false_eq_true, if_false, decide_eq_true_eq] at * <;> first | (unfold imin; split <;> omega) | (unfold imax; split <;> omega)
    · simp only [if_neg hb] at *
      rw [zipM_nth hl (by omega) hv'.b1]
      have m1 : nth x l.B ≤ nth y l.B → l.Mul * nth x l.B ≤ l.Mul * nth y l.B := mul_mono hv'.m0
      have m2 : nth y l.B ≤ nth x l.B → l.Mul * nth y l.B ≤ l.Mul * nth x l.B := mul_mono hv'.m0
      cases hL : l.Least <;> simp only [hL, if_true, Bool.false_eq_true, if_false, decide_eq_true_eq] at * <;> first
        | (unfold imin; split <;> split <;> first | omega | (have := m1 (by omega); omega) | (have := m2 (by omega); omega))
        | (unfold imax; split <;> split <;> first | omega | (have := m1 (by omega); omega) | (have := m2 (by omega); omega))

theorem both_true (l : List Int) (n : Int) (a b : List Int) (i0 : ∀ x ∈ l, I64 x) (i1 : I64 n) (i2 : ∀ x ∈ a, I64 x) (i3 : ∀ x ∈ b, I64 x) : flaw13_CountsBoth l n a b = some true := by
  have main : Ok (flaw13_CountsBoth l n a b) (fun r => r = true) := by
    unfold flaw13_CountsBoth
    refine Ok.arnd i1 (by decide) fun k k0 k1 => ?_
    rw [w64 (n := 1 + k) (by omega) (by omega)]
    refine (made_ok i0 (by omega) (by omega)).bind fun ls hls => ?_
    rw [given_is (by have := hls.1; omega)]
    simp only [Option.bind_some]
    refine (some13_ok i2 (by omega) (by omega)).bind fun x hx => ?_
    refine (some13_ok i3 (by omega) (by omega)).bind fun y hy => ?_
    have hxy : x.length = y.length := by have := hx.1; have := hy.1; omega
    have hxl : (x.length : Int) = 1 + k := hx.1
    have hz : (tailrec (fun (s12 : Int × List Int × List Int) => ((if (decide (s12.1 < (1 + k))) = true then (idx x s12.1).bind fun t38 => (idx y s12.1).bind fun t42 => (rm (s12.2.2.length + [(imin t38 t42)].length)).bind fun _ => (idx x s12.1).bind fun t50 => (idx y s12.1).bind fun t54 => (rm (s12.2.1.length + [(imax t50 t54)].length)).bind fun _ => (some (.inl ((IntKind.i64.wrap (s12.1 + (1:Int))), (s12.2.1 ++ [(imax t50 t54)]), (s12.2.2 ++ [(imin t38 t42)])))) else (some (.inr (s12.2.1, s12.2.2)))) : Option ((Int × List Int × List Int) ⊕ ((List Int × List Int))))) ((0:Int), ([] : List Int), ([] : List Int))) = some (zipM imax x y, zipM imin x y) := by
      have := tailrec_for (body := (fun (s12 : Int × List Int × List Int) => ((if (decide (s12.1 < (1 + k))) = true then (idx x s12.1).bind fun t38 => (idx y s12.1).bind fun t42 => (rm (s12.2.2.length + [(imin t38 t42)].length)).bind fun _ => (idx x s12.1).bind fun t50 => (idx y s12.1).bind fun t54 => (rm (s12.2.1.length + [(imax t50 t54)].length)).bind fun _ => (some (.inl ((IntKind.i64.wrap (s12.1 + (1:Int))), (s12.2.1 ++ [(imax t50 t54)]), (s12.2.2 ++ [(imin t38 t42)])))) else (some (.inr (s12.2.1, s12.2.2)))) : Option ((Int × List Int × List Int) ⊕ ((List Int × List Int)))))) x.length (fun j => ((j : Int), (zipM imax x y).take j, (zipM imin x y).take j)) (zipM imax x y, zipM imin x y) (fun j hj => ?_) ?_
      · simpa using this
      · have hj2 : j < y.length := by omega
        dsimp only
        rw [if_pos (by simp; omega), idx_lt hj, idx_lt hj2]
        simp only [Option.bind_some]
        rw [rm_le (by simp; omega), rm_le (by simp; omega), w64_succ hj (by omega)]
        have e : ∀ f, (zipM f x y).take (j + 1) = (zipM f x y).take j ++ [f x[j] y[j]] := fun f => by
          rw [List.take_succ_eq_append_getElem (by simp [zipM]; omega)]
          simp [zipM]
        rw [e, e]
        rfl
      · dsimp only
        rw [if_neg (by simp; omega)]
        have e : ∀ f, (zipM f x y).take x.length = zipM f x y := fun f => List.take_of_length_le (by simp [zipM]; omega)
        rw [e, e]
    rw [hz]
    simp only [Option.bind_some]
    have hlen : (ls.map toC).length ≤ 10 := by have := hls.1; simp; omega
    have hL : ∀ c : List Int, c.length ≤ x.length → c.length ≤ 1000000 := fun c hc => by omega
    rw [scan_all (ls.map toC) (fun _ => true) false (fun j hj => ?_) (if_neg (by simp))]
    · rw [if_pos (by simp)]
      rw [lives_true]; exact Ok.mk rfl
    · rw [if_pos rfl, if_pos (by simpa using hj), idx_lt hj]
      have hzl : ∀ f, (zipM f x y).length ≤ 1000000 := fun f => by simp [zipM]; omega
      simp only [Option.bind_some, Holds_is (hL x (Nat.le_refl _)), Holds_is (hL y (by omega)), Holds_is (hzl imin), Holds_is (hzl imax), w64_succ hj (show (ls.map toC).length ≤ 9223372036854775807 by omega)]
      cases h1 : holdsS (ls.map toC)[j] x with
      | false => rfl
      | true =>
        simp only [show (true == true) = true from rfl, opt_true, Option.bind_some, Bool.true_and]
        cases h2 : holdsS (ls.map toC)[j] y with
        | false => rfl
        | true =>
          obtain ⟨g1, g2⟩ := both_keep hxy h1 h2
          simp only [show (true == true) = true from rfl, opt_true, Option.bind_some, g1, g2, Bool.true_and, Bool.not_true, Bool.or_false, show (false == false) = true from rfl]
          rfl
  obtain ⟨r, hr, rfl⟩ := main
  exact hr

end Go.Proofs.YtcdccjagknlmpaaGreatDoor
