/- Package bounds: the reference model's smallest contradiction; BoundsCloses holds of the Lean functions. No condition. -/
import Derived.Test.YtjniiejgccdhiaaBoundsN
import Derived.Test.YtjniiejgccdhiaaBenG
namespace Go.Proofs.Ytjniiejgccdhiaa
open Go.Sim

theorem upd1_at {α : Type} {F : Nat → α} {k q : Nat} {v : α} : upd1 F k v q = if q = k then v else F q := rfl

theorem inf_loop {m M k : Nat} (hk : k < M) (hm : m < 1000000) (F : Nat → List Int) :
    tailrec (fun (s224 : Int × List (List Int)) => ((if (decide (s224.1 ≤ (m : Int) - 1)) = true then (idx s224.2 (k : Int)).bind fun r282 => (setAt r282 s224.1 (1099511627776:Int)).bind fun t41s => (setAt s224.2 (k : Int) t41s).bind fun m283 => (some (.inl ((IntKind.i64.wrap (s224.1 + (1:Int))), m283))) else (some (.inr s224.2))) : Option ((Int × List (List Int)) ⊕ ((List (List Int)))))) ((0:Int), rowL M (upd1 F k (rowL m fun _ => 0))) = some (rowL M (upd1 F k (rowL m fun _ => INF))) := by
  have h := tailrec_for (body := (fun (s224 : Int × List (List Int)) => ((if (decide (s224.1 ≤ (m : Int) - 1)) = true then (idx s224.2 (k : Int)).bind fun r282 => (setAt r282 s224.1 (1099511627776:Int)).bind fun t41s => (setAt s224.2 (k : Int) t41s).bind fun m283 => (some (.inl ((IntKind.i64.wrap (s224.1 + (1:Int))), m283))) else (some (.inr s224.2))) : Option ((Int × List (List Int)) ⊕ ((List (List Int))))))) m
    (fun j => ((j : Int), rowL M (upd1 F k (rowL m fun q => if q < j then INF else 0)))) (rowL M (upd1 F k (rowL m fun _ => INF))) ?_ ?_
  · simpa using h
  · intro j hj
    simp only
    rw [if_pos (by simp; omega), rowL_idx hk]
    simp only [Option.bind_some, upd1_same]
    rw [rowL_set hj]
    simp only [Option.bind_some]
    rw [rowL_set hk, upd1_upd1]
    simp only [Option.bind_some]
    rw [w64_succ hj (by omega)]
    congr 5
    refine rowL_congr fun q _ => ?_
    rw [upd1_at]
    by_cases h : q = j
    · rw [if_pos h, if_pos (by omega)]
    · rw [if_neg h]
      by_cases h2 : q < j
      · rw [if_pos h2, if_pos (by omega)]
      · rw [if_neg h2, if_neg (by omega)]
  · simp only
    rw [if_neg (by simp; omega)]
    congr 4
    exact rowL_congr fun q hq => by rw [if_pos hq]

theorem relaxR_loop {m M k first : Nat} {l : List SDiff} (hm : m ≤ 11) (hk : k + 1 < M) (hM : M < 1000000) (hl : l.length < 1000000) (hf : first < l.length) (hin : ∀ d ∈ l, -1 ≤ d.A ∧ d.A < (m : Int) - 1 ∧ -1 ≤ d.B ∧ d.B < (m : Int) - 1 ∧ rowN m d.A < m ∧ rowN m d.B < m) (L : Nat → Int) (F : Nat → List Int) (hF : F k = rowL m L) :
    tailrec (fun (s239 : Int × List (List Int)) => ((if (decide (s239.1 < (l.length : Int))) = true then (idx l s239.1).bind fun t60 => (frow ((m : Int) - 1) (t60).A).bind fun t63 => (idx l s239.1).bind fun t67 => (frow ((m : Int) - 1) (t67).B).bind fun t70 => (idx s239.2 (IntKind.i64.wrap (((k + 1 : Nat) : Int) - (1:Int)))).bind fun r266 => (idx r266 t70).bind fun t77 => ((if (decide (t77 < (1099511627776:Int))) = true then (idx s239.2 ((k + 1 : Nat) : Int)).bind fun r272 => (idx r272 t63).bind fun t90 => (idx l s239.1).bind fun t94 => (idx s239.2 (IntKind.i64.wrap (((k + 1 : Nat) : Int) - (1:Int)))).bind fun r273 => (idx r273 t70).bind fun t103 => (setAt r272 t63 (imin t90 (IntKind.i64.wrap ((t94).N + t103)))).bind fun t107s => (setAt s239.2 ((k + 1 : Nat) : Int) t107s).bind fun m274 => (some m274) else (some s239.2))).bind fun (p267 : List (List Int)) => (some (.inl ((IntKind.i64.wrap (s239.1 + (1:Int))), p267))) else (some (.inr s239.2))) : Option ((Int × List (List Int)) ⊕ ((List (List Int)))))) ((IntKind.i64.wrap ((first : Int) + (1:Int))), rowL M (upd1 F (k + 1) (rowL m fun _ => INF))) = some (rowL M (upd1 F (k + 1) (rowL m (((l.drop (first + 1)).map (edN m)).foldl (relax L) fun _ => INF)))) := by
  have hw : IntKind.i64.wrap (((k + 1 : Nat) : Int) - 1) = (k : Int) := by rw [w64 (by omega) (by omega)]; omega
  rw [hw, w64_succ hf (by omega)]
  refine tailrec_for (l.length - (first + 1)) (fun j => (((first + 1 + j : Nat) : Int), rowL M (upd1 F (k + 1) (rowL m ((((l.drop (first + 1)).take j).map (edN m)).foldl (relax L) fun _ => INF))))) _ ?_ ?_
  · intro j hj
    simp only
    have hi : first + 1 + j < l.length := by omega
    obtain ⟨a1, a2, b1, b2, ha, hb⟩ := hin _ (List.getElem_mem hi)
    rw [if_pos (by simp; omega), idx_lt hi]
    simp only [Option.bind_some]
    rw [frow_is a1 a2, frow_is b1 b2]
    simp only [Option.bind_some]
    have e1 : ∀ R, idx (rowL M (upd1 F (k + 1) R)) (k : Int) = some (rowL m L) := fun R => by rw [rowL_idx (by omega), upd1_ne (by omega), hF]
    have e2 : ∀ R, idx (rowL M (upd1 F (k + 1) R)) ((k + 1 : Nat) : Int) = some R := fun R => by rw [rowL_idx hk, upd1_same]
    rw [e1]
    simp only [Option.bind_some]
    rw [rowL_idx hb]
    simp only [Option.bind_some]
    have hdl : j < (l.drop (first + 1)).length := by simp; omega
    rw [w64_succ hi (by omega), List.take_succ_eq_append_getElem hdl, List.map_append, List.foldl_append]
    generalize (((l.drop (first + 1)).take j).map (edN m)).foldl (relax L) (fun _ => INF) = r
    simp only [List.map_cons, List.map_nil, List.foldl_cons, List.foldl_nil, List.getElem_drop]
    unfold relax edN
    simp only
    by_cases h : L (rowN m l[first + 1 + j].B) < INF
    · rw [if_pos h, if_pos (by simpa using h), e2]
      simp only [Option.bind_some]
      rw [rowL_idx ha]
      simp only [Option.bind_some]
      rw [rowL_set ha]
      simp only [Option.bind_some]
      rw [rowL_set hk, upd1_upd1, Int.add_comm]
      rfl
    · rw [if_neg h, if_neg (by simpa using h)]
      rfl
  · simp only
    rw [if_neg (by simp; omega), List.take_of_length_le (by simp)]

theorem back_is {m : Nat} {l : List SDiff} (hv : Valid m l) {first to most : Nat} (hf : first < l.length) (ht : to < m) (hm : most ≤ m) :
    fback ((m : Int) - 1) l (first : Int) (to : Int) (most : Int) = some (rowL (most + 1) fun q => rowL m (lay to ((l.drop (first + 1)).map (edN m)) q)) := by
  have hm11 := hv.m11
  have hlen := hv.len
  have hin : ∀ d ∈ l, -1 ≤ d.A ∧ d.A < (m : Int) - 1 ∧ -1 ≤ d.B ∧ d.B < (m : Int) - 1 ∧ rowN m d.A < m ∧ rowN m d.B < m := fun d hd => by
    have h := eds_w hv (edN m d) (List.mem_map_of_mem hd)
    have g := hv.ok d hd
    exact ⟨g.1, g.2.1, g.2.2.1, g.2.2.2.1, h.1, h.2.1⟩
  unfold fback
  rw [w64_succ (n := most + 1) (k := most) (by omega) (by omega), mk_nat _ _ (by omega)]
  simp only [Option.bind_some]
  generalize hLy : lay to ((l.drop (first + 1)).map (edN m)) = Ly
  refine for_bind (most + 1) (fun k => ((k : Int), rowL (most + 1) fun q => if q < k then rowL m (Ly q) else [])) (rowL (most + 1) fun q => rowL m (Ly q)) ?_ ?_ ?_ rfl
  · simp only [Nat.not_lt_zero, if_false]
    rw [rowL_rep]; rfl
  · intro k hk
    simp only
    rw [if_pos (by simp; omega), m_wrap hm11, mk_nat _ _ (by omega)]
    simp only [Option.bind_some]
    rw [rowL_set hk]
    simp only [Option.bind_some]
    rw [← rowL_rep, inf_loop hk (by omega)]
    simp only [Option.bind_some]
    have fin : ∀ R : List Int, R = rowL m (Ly k) → rowL (most + 1) (upd1 (fun q => if q < k then rowL m (Ly q) else []) k R) = rowL (most + 1) fun q => if q < k + 1 then rowL m (Ly q) else [] := by
      rintro R rfl
      refine rowL_congr fun q _ => ?_
      rw [upd1_at]
      by_cases h : q = k
      · rw [if_pos h, if_pos (by omega), h]
      · rw [if_neg h]
        by_cases h2 : q < k
        · rw [if_pos h2, if_pos (by omega)]
        · rw [if_neg h2, if_neg (by omega)]
    rw [w64_succ hk (by omega)]
    cases k with
    | zero =>
      rw [if_pos (by rfl)]
      have e1 : idx (rowL (most + 1) (upd1 (fun q => if q < 0 then rowL m (Ly q) else []) 0 (rowL m fun _ => INF))) ((0 : Nat) : Int) = some (rowL m fun _ => INF) := by rw [rowL_idx hk, upd1_same]
      rw [show ((0 : Nat) : Int) = 0 from rfl] at e1
      rw [e1]
      simp only [Option.bind_some]
      rw [rowL_set ht]
      simp only [Option.bind_some]
      have e2 := rowL_set (R := upd1 (fun q => if q < 0 then rowL m (Ly q) else []) 0 (rowL m fun _ => INF)) hk (rowL m (upd1 (fun _ => INF) to 0))
      rw [show ((0 : Nat) : Int) = 0 from rfl] at e2
      rw [e2]
      simp only [Option.bind_some]
      rw [upd1_upd1, fin _ (by rw [← hLy]; rfl)]
    | succ k =>
      rw [if_neg (by simp; omega)]
      rw [relaxR_loop hm11 hk (by omega) (by omega) hf hin (Ly k) (fun q => if q < k + 1 then rowL m (Ly q) else []) (if_pos (by omega))]
      simp only [Option.bind_some]
      rw [fin _ (by rw [← hLy]; rfl)]
  · simp only
    rw [if_neg (by simp; omega)]
    congr 2
    exact rowL_congr fun q hq => by rw [if_pos hq]

end Go.Proofs.Ytjniiejgccdhiaa
