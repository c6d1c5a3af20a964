/- Package bounds: the smallest contradiction, as both programs look for it. No condition. -/
import Derived.Test.YtjniiejgccdhiaaBoundsM
import Derived.Test.YtjniiejgccdhiaaBenE
namespace Go.Proofs.Ytjniiejgccdhiaa
open Go.Sim

def relax (L r : Nat → Int) (x : Ed) : Nat → Int := if L x.b < INF then upd1 r x.a (imin (r x.a) (IntKind.i64.wrap (L x.b + x.w))) else r
def lay (a0 : Nat) (tl : List Ed) : Nat → Nat → Int
  | 0 => upd1 (fun _ => INF) a0 0
  | s + 1 => tl.foldl (relax (lay a0 tl s)) (fun _ => INF)
def goesB (L : Nat → Int) (sum n : Int) (v : Nat) : Bool := decide (L v < INF) && decide (IntKind.i64.wrap (IntKind.i64.wrap (sum + n) + L v) < 0)
abbrev Wk := Nat × List Int × Int
def inS (E : List Ed) (L : Nat → Int) : Nat → Nat → Wk → Wk
  | 0, _, st => st
  | k + 1, i, st => if ((E.getD i ⟨0, 0, 0⟩).a == st.1 && goesB L st.2.2 (E.getD i ⟨0, 0, 0⟩).w (E.getD i ⟨0, 0, 0⟩).b) = true then ((E.getD i ⟨0, 0, 0⟩).b, st.2.1 ++ [(i : Int)], IntKind.i64.wrap (st.2.2 + (E.getD i ⟨0, 0, 0⟩).w)) else inS E L k (i + 1) st
def outS (E : List Ed) (Ly : Nat → Nat → Int) (first : Nat) : Nat → Wk → Wk
  | 0, st => st
  | k + 1, st => outS E Ly first k (inS E (Ly k) (E.length - (first + 1)) (first + 1) st)
def cycleS (E : List Ed) (many first : Nat) : List Int :=
  if goesB (lay (E.getD first ⟨0, 0, 0⟩).a (E.drop (first + 1)) (many - 1)) (E.getD first ⟨0, 0, 0⟩).w 0 (E.getD first ⟨0, 0, 0⟩).b = true then
    (outS E (lay (E.getD first ⟨0, 0, 0⟩).a (E.drop (first + 1))) first (many - 1) ((E.getD first ⟨0, 0, 0⟩).b, [(first : Int)], (E.getD first ⟨0, 0, 0⟩).w)).2.1
  else []
def scanS (f : Nat → List Int) : Nat → Nat → Option (List Int)
  | 0, _ => none
  | k + 1, i => if (f i).isEmpty = true then scanS f k (i + 1) else some (f i)
def scan2 (f : Nat → Nat → List Int) (len : Nat) : Nat → Nat → Option (List Int)
  | 0, _ => none
  | k + 1, many => match scanS (f many) len 0 with | some p => some p | none => scan2 f len k (many + 1)
def cycS (n : Int) (l : List SDiff) : List Int × Int :=
  if validS n l ≠ 0 then ([], validS n l) else match scan2 (cycleS (l.map (edN (n + 1).toNat))) l.length n.toNat 2 with | some p => (p, 0) | none => ([], 6)

theorem inS_len {E : List Ed} {L : Nat → Int} : ∀ k i st, st.2.1.length ≤ (inS E L k i st).2.1.length ∧ (inS E L k i st).2.1.length ≤ st.2.1.length + 1 := by
  intro k
  induction k with
  | zero => intro i st; unfold inS; omega
  | succ k ih =>
    intro i st
    unfold inS
    split
    · simp
    · exact ih _ _
theorem outS_len {E : List Ed} {Ly : Nat → Nat → Int} {first : Nat} : ∀ k st, st.2.1.length ≤ (outS E Ly first k st).2.1.length ∧ (outS E Ly first k st).2.1.length ≤ st.2.1.length + k := by
  intro k
  induction k with
  | zero => intro st; unfold outS; omega
  | succ k ih =>
    intro st
    unfold outS
    have h1 := inS_len (E := E) (L := Ly k) (E.length - (first + 1)) (first + 1) st
    have h2 := ih (inS E (Ly k) (E.length - (first + 1)) (first + 1) st)
    omega

theorem rowL_snoc {α : Type} {k : Nat} {F : Nat → α} : rowL k F ++ [F k] = rowL (k + 1) F := by
  unfold rowL
  rw [List.range_succ, List.map_append]
  rfl

theorem map_idx {m : Nat} {l : List SDiff} {i : Nat} (h : i < l.length) : idx (l.map (edS m)) (i : Int) = some (edS m l[i]) := by
  rw [idx_lt (by simpa using h)]; simp
theorem map_getD {m : Nat} {l : List SDiff} {i : Nat} (h : i < l.length) : (l.map (edN m)).getD i ⟨0, 0, 0⟩ = edN m l[i] := by
  rw [List.getD_eq_getElem?_getD, List.getElem?_eq_getElem (by simpa using h)]; simp

theorem goes_is {m : Nat} {c0 : List (List Int)} {s : Int} {L : Nat → Int} {v : Nat} (n c1 : Int) (hs : idx c0 s = some (rowL m L)) (hv : v < m) : fcycle1 (v : Int) s n c0 c1 = some (goesB L c1 n v) := by
  unfold fcycle1 goesB
  rw [hs]
  simp only [Option.bind_some]
  rw [rowL_idx hv]
  simp only [Option.bind_some]
  by_cases h : L v < INF
  · rw [show (decide (L v < 1099511627776) == true) = true by simpa using h]
    simp only [opt_true, Option.bind_some]
    rw [rowL_idx hv]
    rfl
  · rw [show (decide (L v < 1099511627776) == true) = false by simpa using h]
    simp only [opt_false, Option.bind_some]
    have : decide (L v < 1099511627776) = false := by simpa using h
    rw [this]
    rfl

def RowsIn (m : Nat) (l : List SDiff) : Prop := ∀ d ∈ l, rowN m d.A < m ∧ rowN m d.B < m

theorem relax_loop {m : Nat} {tl : List SDiff} (hl : tl.length < 1000000) (hin : RowsIn m tl) {L : Nat → Int} {T : List (List Int)} {s : Int} (hT : idx T s = some (rowL m L)) :
    tailrec (fun (s201 : Int × List Int) => ((if (decide (s201.1 < ((tl.map (edS m)).length : Int))) = true then (idx (tl.map (edS m)) s201.1).bind fun t52 => (idx T s).bind fun r223 => (idx r223 (t52).b).bind fun t61 => ((if (decide (t61 < (1099511627776:Int))) = true then (idx s201.2 (t52).a).bind fun t71 => (setAt s201.2 (t52).a (imin t71 (IntKind.i64.wrap (t61 + (t52).n)))).bind fun t78s => (some t78s) else (some s201.2))).bind fun (p225 : List Int) => (some (.inl ((IntKind.i64.wrap (s201.1 + (1:Int))), p225))) else (some (.inr s201.2))) : Option ((Int × List Int) ⊕ ((List Int))))) ((0:Int), rowL m fun _ => INF) = some (rowL m ((tl.map (edN m)).foldl (relax L) fun _ => INF)) := by
  refine tailrec_for tl.length (fun k => ((k : Int), rowL m (((tl.take k).map (edN m)).foldl (relax L) fun _ => INF))) _ ?_ ?_
  · intro k hk
    simp only
    obtain ⟨ha, hb⟩ := hin _ (List.getElem_mem hk)
    rw [if_pos (by simpa using hk), map_idx hk]
    simp only [Option.bind_some, edS]
    rw [hT]
    simp only [Option.bind_some]
    rw [rowL_idx hb]
    simp only [Option.bind_some]
    rw [w64_succ hk (by omega), List.take_succ_eq_append_getElem hk, List.map_append, List.foldl_append]
    generalize ((tl.take k).map (edN m)).foldl (relax L) (fun _ => INF) = r
    simp only [List.map_cons, List.map_nil, List.foldl_cons, List.foldl_nil]
    unfold relax edN
    simp only
    by_cases h : L (rowN m tl[k].B) < INF
    · rw [if_pos h, if_pos (by simpa using h), rowL_idx ha]
      simp only [Option.bind_some]
      rw [rowL_set ha]
      rfl
    · rw [if_neg h, if_neg (by simpa using h)]
      rfl
  · rw [if_neg (by simp), List.take_length]

/-- The part behind a place, and the edges there. -/
theorem drop_map {m : Nat} {l : List SDiff} {i : Nat} : (l.map (edN m)).drop i = (l.drop i).map (edN m) := by rw [List.map_drop]

theorem cycle_is {m : Nat} {l : List SDiff} (hv : Valid m l) {first many : Nat} (hf : first < l.length) (h2 : 2 ≤ many) (hm : many ≤ m) :
    fcycle ((m : Int) - 1) (l.map (edS m)) (first : Int) (many : Int) = some (cycleS (l.map (edN m)) many first) := by
  have hm11 := hv.m11
  have hlen := hv.len
  have hin : RowsIn m l := fun d hd => by
    have h := eds_w hv (edN m d) (List.mem_map_of_mem hd)
    exact ⟨h.1, h.2.1⟩
  unfold fcycle cycleS
  obtain ⟨ha, hb⟩ := hin _ (List.getElem_mem hf)
  rw [m_wrap hm11, repeat_is hv.m1 hm11, map_getD hf, drop_map]
  simp only [Option.bind_some]
  generalize hLy : lay (edN m l[first]).a ((l.drop (first + 1)).map (edN m)) = Ly
  have e0 : idx [rowL m fun _ => INF] (0 : Int) = some (rowL m fun _ => INF) := rfl
  rw [e0, map_idx hf]
  simp only [Option.bind_some, edS]
  rw [rowL_set ha]
  simp only [Option.bind_some]
  have e1 : setAt [rowL m fun _ => INF] (0 : Int) (rowL m (upd1 (fun _ => INF) (rowN m l[first].A) 0)) = some (rowL 1 fun q => rowL m (Ly q)) := by
    rw [← hLy]; rfl
  rw [e1]
  simp only [Option.bind_some]
  refine for_bind (many - 1) (fun k => (((k + 1 : Nat) : Int), rowL (k + 1) fun q => rowL m (Ly q))) (rowL many fun q => rowL m (Ly q)) rfl ?_ ?_ ?_
  · intro k hk
    simp only
    rw [if_pos (by simp; omega)]
    have e3 : sub (l.map (edS m)) (IntKind.i64.wrap ((first : Int) + 1)) ((l.map (edS m)).length : Int) = some ((l.drop (first + 1)).map (edS m)) := by
      rw [w64 (by omega) (by omega)]
      unfold sub
      rw [if_pos (by simp; omega), show ((first : Int) + 1).toNat = first + 1 by omega, List.take_of_length_le (by simp), List.map_drop]
    rw [e3]
    simp only [Option.bind_some]
    have e4 : idx (rowL (k + 1) fun q => rowL m (Ly q)) (IntKind.i64.wrap (((k + 1 : Nat) : Int) - 1)) = some (rowL m (Ly k)) := by
      rw [w64 (by omega) (by omega), show ((k + 1 : Nat) : Int) - 1 = (k : Int) by omega, rowL_idx (by omega)]
    rw [relax_loop (by simp; omega) (fun d hd => hin d (List.mem_of_mem_drop hd)) e4]
    simp only [Option.bind_some]
    rw [rm_le (by rw [rowL_len]; omega)]
    simp only [Option.bind_some]
    have e5 : ((l.drop (first + 1)).map (edN m)).foldl (relax (Ly k)) (fun _ => INF) = Ly (k + 1) := by rw [← hLy]; rfl
    rw [e5, w64_succ (n := many) (by omega) (by omega)]
    have := rowL_snoc (k := k + 1) (F := fun q => rowL m (Ly q))
    rw [this]
  · rw [if_neg (by simp; omega), show many - 1 + 1 = many by omega]
  · have e6 : idx (rowL many fun q => rowL m (Ly q)) (IntKind.i64.wrap ((many : Int) - 1)) = some (rowL m (Ly (many - 1))) := by
      rw [w64 (by omega) (by omega), show (many : Int) - 1 = ((many - 1 : Nat) : Int) by omega, rowL_idx (by omega)]
    rw [goes_is _ _ e6 hb]
    simp only [Option.bind_some]
    by_cases hg : goesB (Ly (many - 1)) l[first].N 0 (rowN m l[first].B) = true
    · rw [hg]
      rw [if_neg (by simp), if_pos (by simpa [edN] using hg)]
      have inn : ∀ (L : Nat → Int) (s : Int), idx (rowL many fun q => rowL m (Ly q)) s = some (rowL m L) → ∀ (k i : Nat) (st : Wk), i + k = l.length → st.2.1.length ≤ 100 →
          (tailrec (fun (s165 : Int × Int × List Int × Int) => ((if (decide (s165.1 < ((l.map (edS m)).length : Int))) = true then (idx (l.map (edS m)) s165.1).bind fun t119 => (opt (((t119).a == s165.2.1) == true) (fcycle1 (t119).b s (t119).n (rowL many fun q => rowL m (Ly q)) s165.2.2.2) default).bind fun t132 => (if (((t119).a == s165.2.1) && t132) = true then (rm (s165.2.2.1.length + [s165.1].length)).bind fun _ => (some (.inr (.inr ((t119).b, (s165.2.2.1 ++ [s165.1]), (IntKind.i64.wrap (s165.2.2.2 + (t119).n)))))) else (some (.inl ((IntKind.i64.wrap (s165.1 + (1:Int))), s165.2.1, s165.2.2.1, s165.2.2.2)))) else (some (.inr (.inl (s165.2.1, s165.2.2.1, s165.2.2.2))))) : Option ((Int × Int × List Int × Int) ⊕ ((Int × List Int × Int) ⊕ (Int × List Int × Int))))) ((i : Int), (st.1 : Int), st.2.1, st.2.2)).bind (fun (e167 : (Int × List Int × Int) ⊕ (Int × List Int × Int)) => (match e167 with | .inl p177 => (some (p177.1, p177.2.1, p177.2.2)) | .inr p179 => (some (p179.1, p179.2.1, p179.2.2)))) =
          some (((inS (l.map (edN m)) L k i st).1 : Int), (inS (l.map (edN m)) L k i st).2.1, (inS (l.map (edN m)) L k i st).2.2) := by
        intro L s hs k
        induction k with
        | zero =>
          intro i st hi _
          rw [tailrec_eq]
          simp only
          rw [if_neg (by simp; omega)]
          rfl
        | succ k ih =>
          intro i st hi hst
          have hil : i < l.length := by omega
          obtain ⟨ha, hb⟩ := hin _ (List.getElem_mem hil)
          rw [tailrec_eq]
          simp only
          rw [if_pos (by simpa using hil), map_idx hil]
          simp only [Option.bind_some, edS]
          unfold inS
          rw [map_getD hil, goes_is _ _ hs hb]
          have ea : (((rowN m l[i].A : Nat) : Int) == (st.1 : Int)) = ((edN m l[i]).a == st.1) := by
            rw [Bool.eq_iff_iff]; simp only [edN, beq_iff_eq]; omega
          rw [ea]
          by_cases hc : ((edN m l[i]).a == st.1) = true
          · rw [hc]
            simp only [BEq.rfl, opt_true, Option.bind_some, Bool.true_and]
            by_cases hg : goesB L st.2.2 l[i].N (rowN m l[i].B) = true
            · rw [if_pos hg, if_pos (by simpa [edN] using hg), rm_le (by simp; omega)]
              rfl
            · rw [if_neg hg, if_neg (by simpa [edN] using hg)]
              simp only
              rw [w64_succ hil (by omega)]
              exact ih (i + 1) st (by omega) hst
          · have hc' : ((edN m l[i]).a == st.1) = false := by simpa using hc
            rw [hc']
            simp only [show (false == true) = false from rfl, opt_false, Option.bind_some, Bool.false_and, Bool.false_eq_true, if_false]
            rw [w64_succ hil (by omega)]
            exact ih (i + 1) st (by omega) hst
      have out : ∀ (k : Nat) (st : Wk), k < many → st.2.1.length + k ≤ 100 →
          tailrec (fun (s65 : Int × Int × List Int × Int) => ((if (decide (s65.1 ≥ (0:Int))) = true then ((tailrec (fun (s165 : Int × Int × List Int × Int) => ((if (decide (s165.1 < ((l.map (edS m)).length : Int))) = true then (idx (l.map (edS m)) s165.1).bind fun t119 => (opt (((t119).a == s165.2.1) == true) (fcycle1 (t119).b s65.1 (t119).n (rowL many fun q => rowL m (Ly q)) s165.2.2.2) default).bind fun t132 => (if (((t119).a == s165.2.1) && t132) = true then (rm (s165.2.2.1.length + [s165.1].length)).bind fun _ => (some (.inr (.inr ((t119).b, (s165.2.2.1 ++ [s165.1]), (IntKind.i64.wrap (s165.2.2.2 + (t119).n)))))) else (some (.inl ((IntKind.i64.wrap (s165.1 + (1:Int))), s165.2.1, s165.2.2.1, s165.2.2.2)))) else (some (.inr (.inl (s165.2.1, s165.2.2.1, s165.2.2.2))))) : Option ((Int × Int × List Int × Int) ⊕ ((Int × List Int × Int) ⊕ (Int × List Int × Int))))) ((IntKind.i64.wrap ((first : Int) + (1:Int))), s65.2.1, s65.2.2.1, s65.2.2.2)).bind fun (e167 : (Int × List Int × Int) ⊕ (Int × List Int × Int)) => (match e167 with | .inl p177 => (some (p177.1, p177.2.1, p177.2.2)) | .inr p179 => (some (p179.1, p179.2.1, p179.2.2)))).bind fun (p135 : Int × List Int × Int) => (some (.inl ((IntKind.i64.wrap (s65.1 - (1:Int))), p135.1, p135.2.1, p135.2.2))) else (some (.inr s65.2.2.1))) : Option ((Int × Int × List Int × Int) ⊕ ((List Int)))))
            ((k : Int) - 1, (st.1 : Int), st.2.1, st.2.2) = some (outS (l.map (edN m)) Ly first k st).2.1 := by
        intro k
        induction k with
        | zero =>
          intro st _ _
          rw [tailrec_eq]
          simp only
          rw [if_neg (by simp)]
          rfl
        | succ k ih =>
          intro st hk hst
          have e7 : idx (rowL many fun q => rowL m (Ly q)) (((k + 1 : Nat) : Int) - 1) = some (rowL m (Ly k)) := by
            rw [show ((k + 1 : Nat) : Int) - 1 = (k : Int) by omega, rowL_idx (by omega)]
          have e8 := inn (Ly k) (((k + 1 : Nat) : Int) - 1) e7 (l.length - (first + 1)) (first + 1) st (by omega) (by omega)
          have hlen := inS_len (E := l.map (edN m)) (L := Ly k) (l.length - (first + 1)) (first + 1) st
          rw [tailrec_eq]
          simp only
          rw [← w64_succ (n := l.length) (k := first) (by omega) (by omega)] at e8
          rw [if_pos (by simp), e8]
          simp only [Option.bind_some]
          rw [w64 (n := ((k + 1 : Nat) : Int) - 1 - 1) (by omega) (by omega), show ((k + 1 : Nat) : Int) - 1 - 1 = (k : Int) - 1 by omega]
          refine (ih (inS (l.map (edN m)) (Ly k) (l.length - (first + 1)) (first + 1) st) (by omega) (by omega)).trans ?_
          conv => rhs; unfold outS
          rw [List.length_map]
      have e9 := out (many - 1) (rowN m l[first].B, [(first : Int)], l[first].N) (by omega) (by simp; omega)
      rw [show ((many - 1 : Nat) : Int) - 1 = IntKind.i64.wrap ((many : Int) - 2) by rw [w64 (by omega) (by omega)]; omega] at e9
      simp only at e9
      refine (congrArg (Option.bind · _) e9).trans ?_
      simp only [Option.bind_some]
      have hne := (outS_len (E := l.map (edN m)) (Ly := Ly) (first := first) (many - 1) (rowN m l[first].B, [(first : Int)], l[first].N)).1
      have : ne (outS (l.map (edN m)) Ly first (many - 1) (rowN m l[first].B, [(first : Int)], l[first].N)).2.1 = some () := by
        cases h : (outS (l.map (edN m)) Ly first (many - 1) (rowN m l[first].B, [(first : Int)], l[first].N)).2.1 with
        | nil => rw [h] at hne; simp at hne
        | cons _ _ => rfl
      rw [this]
      rfl
    · have hg' : goesB (Ly (many - 1)) l[first].N 0 (rowN m l[first].B) = false := by simpa using hg
      rw [hg', if_pos (by simp), if_neg (by simpa [edN] using hg)]

end Go.Proofs.Ytjniiejgccdhiaa
