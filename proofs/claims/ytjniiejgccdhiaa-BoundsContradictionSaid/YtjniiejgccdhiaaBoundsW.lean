/- Package bounds: BoundsContradiction holds of the Lean functions. No condition. -/
import Derived.Test.YtjniiejgccdhiaaBoundsV
import Derived.Test.YtjniiejgccdhiaaBoundsS
import Derived.Test.YtjniiejgccdhiaaBenK
namespace Go.Proofs.Ytjniiejgccdhiaa
open Go.Sim

theorem pick_loop (d : List SDiff) (js : List Nat) (s : Int) (hj : ∀ j ∈ js, j < d.length) (hl : js.length ≤ 1000) :
    tailrec (fun (s80 : Int × List SDiff) => ((if (decide (s80.1 < ((js.map (fun (j : Nat) => (j : Int))).length : Int))) = true then (idx (js.map (fun (j : Nat) => (j : Int))) s80.1).bind fun t95 => (opt ((decide (t95 < (0:Int))) == false) (idx (js.map (fun (j : Nat) => (j : Int))) s80.1) default).bind fun t101 => (if ((decide (t95 < (0:Int))) || (decide (t101 ≥ (d.length : Int)))) = true then (some (.inr (.inr false))) else ((if (s80.1 != s) = true then (idx (js.map (fun (j : Nat) => (j : Int))) s80.1).bind fun t114 => (idx d t114).bind fun t116 => (idx (js.map (fun (j : Nat) => (j : Int))) s80.1).bind fun t122 => (idx d t122).bind fun t124 => (idx (js.map (fun (j : Nat) => (j : Int))) s80.1).bind fun t130 => (idx d t130).bind fun t132 => (rm (s80.2.length + [(SDiff.mk (t116).A (t124).B (t132).N)].length)).bind fun _ => (some (s80.2 ++ [(SDiff.mk (t116).A (t124).B (t132).N)])) else (some s80.2))).bind fun (p114 : List SDiff) => (some (.inl ((IntKind.i64.wrap (s80.1 + (1:Int))), p114)))) else (some (.inr (.inl s80.2)))) : Option ((Int × List SDiff) ⊕ ((List SDiff) ⊕ (Bool))))) ((0:Int), ([] : List SDiff)) = some (.inl (pick d js s js.length)) := by
  refine tailrec_for js.length (fun q => ((q : Int), pick d js s q)) _ ?_ ?_
  · intro q hq
    simp only
    have hjq := hj _ (List.getElem_mem hq)
    have e1 : idx (js.map (fun (j : Nat) => (j : Int))) (q : Int) = some ((js[q] : Nat) : Int) := by rw [idx_lt (by simpa using hq)]; simp
    rw [if_pos (by simpa using hq)]
    simp only [e1, Option.bind_some]
    rw [show decide (((js[q] : Nat) : Int) < 0) = false by simp]
    simp only [BEq.rfl, opt_true, Option.bind_some, Bool.false_or]
    rw [if_neg (by simp; omega), w64_succ hq (by omega), pick_snoc]
    have hg : d.getD (js.getD q 0) ⟨0, 0, 0⟩ = d[js[q]] := by
      rw [List.getD_eq_getElem?_getD (l := js), List.getElem?_eq_getElem hq]
      simp only [Option.getD_some]
      rw [List.getD_eq_getElem?_getD, List.getElem?_eq_getElem hjq]; rfl
    rw [hg]
    have hpl := (pick_len (d := d) (js := js) (s := s) q).1
    by_cases hs : (q : Int) = s
    · rw [if_neg (by simpa using hs), if_neg (by simpa using hs), List.append_nil]
      rfl
    · rw [if_pos (by simpa using hs), if_pos (by simpa using hs)]
      rw [idx_lt hjq]
      simp only [Option.bind_some]
      rw [rm_le (by simp; omega)]
      rfl
  · simp only
    rw [if_neg (by simp)]

theorem sameTables_closeS (n : Int) (l : List SDiff) : fSameTables (closeS n l).1 (closeS n l).1 = some true := by
  rcases closeS_shape n l with e | ⟨m, G, h1, h2, e⟩
  · rw [e]; exact sameTables_self _ (by simp) (fun r hr => by cases hr)
  · rw [e]; exact sameTables_tab m G (by omega)

theorem contra_true (l : List Int) (turn : Int) (hl : ∀ x ∈ l, I64 x) (ht : I64 turn) : fBoundsContradiction l turn = some true := by
  unfold fBoundsContradiction
  obtain ⟨n, d, hm, h1, h5, hd, hok⟩ := made14_is l hl
  rw [hm]
  simp only [Option.bind_some]
  rw [own_is d (by omega)]
  simp only [Option.bind_some]
  rw [close_is, cyc_is]
  simp only [Option.bind_some]
  obtain ⟨m, rfl, hm2, hm6, hv⟩ := made_valid h1 h5 hd hok
  have hcz := closeS_zero hv
  obtain ⟨x, hx, x0, x1⟩ := around_is turn ((d.length : Int) + 1) ht (by omega)
  rw [w64 (n := (d.length : Int) + 1) (by omega) (by omega), hx]
  obtain ⟨x, rfl⟩ : ∃ k : Nat, x = (k : Int) := ⟨x.toNat, by omega⟩
  have s1 : sub d (x : Int) (d.length : Int) = some (d.drop x) := by
    unfold sub
    rw [if_pos (by omega), List.take_of_length_le (by simp)]
    rfl
  have s2 : sub d (0 : Int) (x : Int) = some (d.take x) := by
    unfold sub
    rw [if_pos (by omega)]; simp
  simp only [Option.bind_some]
  rw [s1, s2]
  simp only [Option.bind_some, List.nil_append]
  rw [rm_le (by simp; omega), rm_le (by simp; omega)]
  simp only [Option.bind_some]
  have hmem : ∀ y, y ∈ d.drop x ++ d.take x ↔ y ∈ d := fun y => by
    rw [List.mem_append]
    constructor
    · rintro (h | h)
      · exact List.mem_of_mem_drop h
      · exact List.mem_of_mem_take h
    · intro h
      rw [← List.take_append_drop x d, List.mem_append] at h
      exact h.symm
  have hvo : Valid m (d.drop x ++ d.take x) := ⟨hv.m1, hv.m11, by have := hv.len; simp; omega, fun y hy => hv.ok y ((hmem y).1 hy)⟩
  rw [own_is _ (by simp; omega)]
  simp only [Option.bind_some]
  rw [close_is, closeS_perm hvo hv hmem]
  simp only [Option.bind_some, bne_self_eq_false, BEq.rfl, opt_true]
  rw [sameTables_closeS]
  simp only [Option.bind_some, Bool.not_true, Bool.or_false, Bool.false_eq_true, if_false]
  rw [hcz, cycS_valid hv]
  cases hsc : scan2 (cycleS (d.map (edN m))) d.length (m - 1) 2 with
  | none =>
    rw [cyc_none hv hsc, lives14_is]
    simp only [Bool.false_eq_true, if_false]
    have hp := pick_loop d [] (-1) (fun j hj => by cases hj) (by simp)
    rw [if_neg (by decide)]
    refine for_bind 0 (fun _ => (-1 : Int)) (.inl ()) rfl (fun k hk => by omega) ?_ rfl
    rw [if_pos (by decide)]
    refine (congrArg (Option.bind · _) hp).trans ?_
    rfl
  | some p =>
    obtain ⟨js, rfl, g1, g2, g3, g4, g5⟩ := cyc_some hv hsc
    rw [g4, lives14_is]
    simp only [if_true]
    rw [if_neg (by decide)]
    refine for_bind (js.length + 1) (fun k => (k : Int) - 1) (.inl ()) rfl ?_ ?_ rfl
    · intro k hk
      have hs := g5 ((k : Int) - 1) (by omega) (by omega)
      rw [if_pos (by simp; omega)]
      refine (congrArg (Option.bind · _) (pick_loop d js ((k : Int) - 1) g1 (by omega))).trans ?_
      simp only [Option.bind_some, bne_self_eq_false, Bool.false_eq_true, if_false]
      rw [close_is]
      simp only [Option.bind_some]
      rw [closeS_zero hs.1, hs.2, w64 (n := (k : Int) - 1 + 1) (by omega) (by omega), show ((k + 1 : Nat) : Int) - 1 = (k : Int) - 1 + 1 by omega]
      by_cases h0 : (k : Int) - 1 < 0
      · rw [show decide ((k : Int) - 1 < 0) = true by simpa using h0, show decide ((k : Int) - 1 ≥ 0) = false by simp; omega]
        rfl
      · rw [show decide ((k : Int) - 1 < 0) = false by simpa using h0, show decide ((k : Int) - 1 ≥ 0) = true by simp; omega]
        rfl
    · rw [if_neg (by simp)]

end Go.Proofs.Ytjniiejgccdhiaa
