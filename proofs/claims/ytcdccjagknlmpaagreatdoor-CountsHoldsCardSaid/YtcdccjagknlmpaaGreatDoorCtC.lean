/- CountsHolds, its plain law. No condition. -/
import Derived.Test.YtcdccjagknlmpaaGreatDoorCtA
import Derived.Test.YtcdccjagknlmpaaGreatDoorEvalA
namespace Go.Proofs.YtcdccjagknlmpaaGreatDoor
open Go.Sim

theorem take13_ok {l : List Int} {n : Int} (h0 : 0 ≤ n) (hn : n ≤ 1000) : Ok (fref01_Take l n) (fun r => r.length ≤ 1000) := by
  have e1 : imin (l.length : Int) n ≤ l.length ∧ 0 ≤ imin (l.length : Int) n ∧ imin (l.length : Int) n ≤ n := by unfold imin; split <;> omega
  unfold fref01_Take
  refine Ok.sub (Int.le_refl _) e1.2.1 e1.1 fun r hr _ => ?_
  refine Ok.rm (by simp; omega) (Ok.mk ?_)
  simp; omega

theorem holds_true (l : List Int) (n : Int) (raw : List Int) (odd : Scounts_Limit) (mul : Int) (i0 : ∀ x ∈ l, I64 x) (i1 : I64 n) (i2 : ∀ x ∈ raw, I64 x) (_ : I64 odd.A ∧ I64 odd.B ∧ I64 odd.Mul) (i4 : I64 mul) : flaw13_CountsHolds l n raw odd mul = some true := by
  have main : Ok (flaw13_CountsHolds l n raw odd mul) (fun r => r = true) := by
    unfold flaw13_CountsHolds
    refine Ok.arnd i1 (by decide) fun k k0 k1 => ?_
    rw [w64 (n := 1 + k) (by omega) (by omega)]
    refine (made_ok i0 (by omega) (by omega)).bind fun ls hls => ?_
    show Ok ((some (Sref13_Limit.mk odd.A odd.B odd.Mul odd.Least)).bind _) _
    simp only [Option.bind_some]
    refine Ok.arnd i4 (by decide) fun m m0 m1 => ?_
    refine Ok.idx m0 (by simpa using m1) fun mu _ _ => ?_
    refine Ok.rm (by have := hls.1; simp; omega) ?_
    refine (some13_ok i2 (by omega) (by omega)).bind fun x hx => ?_
    refine (take13_ok (by omega) (by omega)).bind fun y hy => ?_
    obtain ⟨L, hL⟩ : ∃ L, ls ++ [Sref13_Limit.mk odd.A odd.B odd.Mul odd.Least, Sref13_Limit.mk 0 (IntKind.i64.wrap (1 + k - 1)) mul true, Sref13_Limit.mk 0 (-1) mu false] = L := ⟨_, rfl⟩
    have hLl : L.length ≤ 1000000 := by have := hls.1; rw [← hL]; simp; omega
    obtain ⟨C, hC⟩ : ∃ C, [x, y, ([] : (List Int)), [(65536:Int), (1:Int), (65536:Int)], [(0:Int), (0:Int), (0:Int), (0:Int), (0:Int), (65537:Int)]] = C := ⟨_, rfl⟩
    have hCl : ∀ c ∈ C, c.length ≤ 1000000 := by
      have := hx.1
      rw [← hC]
      intro c hc
      simp only [List.mem_cons, List.not_mem_nil, or_false] at hc
      rcases hc with rfl | rfl | rfl | rfl | rfl <;> first | (simp; done) | omega
    have hCn : C.length ≤ 1000000 := by rw [← hC]; simp
    rw [hL, hC]
    rw [scan_all L (fun _ => true) false (fun j hj => ?_) (if_neg (by simp))]
    · rw [if_pos (by simp)]
      show Ok (flaw13_lives.bind fun t96 => some t96) _
      rw [lives_true]; exact Ok.mk rfl
    · rw [if_pos rfl, if_pos (by simpa using hj), idx_lt hj]
      simp only [Option.bind_some]
      rw [scan_all C (fun _ => true) false (fun i hi => ?_) (if_neg (by simp))]
      · rw [if_pos (by simp), w64_succ hj (by omega)]
        rfl
      · rw [if_pos rfl, if_pos (by simpa using hi), idx_lt hi]
        have hc := hCl _ (List.getElem_mem hi)
        have e : fcounts_Holds (Scounts_Limit.mk L[j].A L[j].B L[j].Mul L[j].Least) C[i] = some (holdsS (toC L[j]) C[i]) := Holds_is hc
        simp only [Option.bind_some, e, rHolds_is hc, w64_succ hi (show C.length ≤ 9223372036854775807 by omega)]
        rw [if_neg (by simp)]
  obtain ⟨r, hr, rfl⟩ := main
  exact hr

end Go.Proofs.YtcdccjagknlmpaaGreatDoor
