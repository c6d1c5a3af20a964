/- The logic's thirteenth part: bits, parts of a slice that the call owns, results that are tables. No condition. -/
import Derived.Test.YthdfmpocknmleaaGreatDoorSimL
namespace Go.Sim

/-- The value of a part of a slice. -/
def cutV (m : Nat) (v : Value) (i j : Int) : Value := match v with
  | .slice ad _ cap => .slice (if cap = i.toNat then ad else ad.map (·.add (i.toNat * m))) (j.toNat - i.toNat) (cap - i.toNat)
  | x => x

theorem sub_eq {α : Type} {xs ys : List α} {i j : Int} (h : sub xs i j = some ys) : 0 ≤ i ∧ i ≤ j ∧ j.toNat ≤ xs.length ∧ ys = (xs.drop i.toNat).take (j.toNat - i.toNat) ∧ ys.length = j.toNat - i.toNat := by
  unfold sub at h
  split at h
  · rename_i hc
    obtain rfl := Option.some.inj h
    exact ⟨hc.1, hc.2.1, by omega, rfl, by simp; omega⟩
  · cases h

section
variable {Γ : List (Nat × Ty)} {P : Program} {d : Option Tmp} {ty : TypeId} {pos : String} {af : Array Edge} {g : Option (Nat × Bool)} {x y : Operand} {T : Ty} {t t2 e : TypeId} {α : Type} {R : Rep α} {bytes : Nat} {z : Value} {v : Value} {k k2 : IntKind} {a b : Int}

theorem own_hdr {xs : List α} {v : Value} {F : Blk} {w : World} (h : (own R e xs v).ok F w) : ∃ ad cap, v = .slice ad xs.length cap ∧ xs.length ≤ cap := by
  rcases own_cells h with ⟨hv, hn⟩ | ⟨b, cap, cur, hv, _, h1, _⟩
  · subst hn; exact ⟨none, 0, hv, Nat.le_refl _⟩
  · exact ⟨_, cap, hv, h1⟩
/-- A part of a slice that the call owns. -/
theorem op_cut {xs ys : List α} {lo hi : Option Operand} {i j : Int} (ht : P.underlying t = some (.slice e)) (hz : TOk P e R bytes z) (hx : Fct Γ x (tv v)) (hlo : Bd Γ lo 0 i) (hhi : Bd Γ hi xs.length j) (h : sub xs i j = some ys) :
    OpJ P ⟨d, .slice t x lo hi none, ty, pos, af, g⟩ Γ [own R e xs v] [] (fun _ => []) (fun _ => tv (cutV R.n v i j)) :=
  opj_use fun M w A hU he => by
    obtain ⟨ad, cap, hv, hlc⟩ := own_hdr (hU _ (List.mem_singleton.2 rfl))
    have hxv := hx.val (by simp [Op.operands]) he
    obtain ⟨ti, hti, _, hs, _⟩ := hz.info
    obtain ⟨c0, c1, c2, _, _⟩ := sub_eq h
    have hb : (Instr.sliceBounds true xs.length cap (lo.map A.eval) (hi.map A.eval) none).run P w = .ok (i.toNat, j.toNat, cap) w := by
      rcases hlo.use (by rintro y rfl; simp [Op.operands]) he with ⟨e1, e2⟩ | ⟨k1, e1⟩ <;> rcases hhi.use (by rintro y rfl; simp [Op.operands]) he with ⟨f1, f2⟩ | ⟨k2, f1⟩
      · rw [e1, f1, e2, f2]; simp [Instr.sliceBounds]
      · rw [e1, f1, e2]
        simp only [Instr.sliceBounds, Sem.run_bind, Sem.run_pure, Result.andThen_ok, run_sliceBound w k2 j cap _ (by omega) (by omega)]
        rfl
      · rw [e1, f1, f2]
        simp only [Instr.sliceBounds, Sem.run_bind, Sem.run_pure, Result.andThen_ok, run_sliceBound w k1 i xs.length _ c0 (by omega)]
        simp
      · rw [e1, f1]
        simp only [Instr.sliceBounds, Sem.run_bind, Sem.run_pure, Result.andThen_ok, run_sliceBound w k2 j cap _ (by omega) (by omega), run_sliceBound w k1 i j.toNat _ c0 (by omega)]
    refine ⟨cutV R.n v i j, ?_, rfl⟩
    subst hv
    simp [execOp, Instr.sliceAt, run_underlying ht, Instr.slice, hxv, hb, sizeOf, typeInfo, hti, hs, cutV]

theorem own_shrink {xs : List α} {b n cap m : Nat} {F : Blk} {w : World} (h : (own R e xs (.slice (some ⟨b, 0, none⟩) n cap)).ok F w) (hm : m ≤ xs.length) : (own R e (xs.take m) (.slice (some ⟨b, 0, none⟩) m cap)).ok F w := by
  rcases own_cells h with ⟨hv, _⟩ | ⟨b', cap', cur, hv, hb, h1, h2, h3, h4⟩
  · simp at hv
  · simp only [Value.slice.injEq, Option.some.injEq, Addr.mk.injEq, and_true] at hv
    obtain ⟨rfl, rfl, rfl⟩ := hv
    have hl : (xs.take m).length = m := by simp; omega
    have hmm : m * R.n ≤ xs.length * R.n := Nat.mul_le_mul_right _ hm
    have := own_mk (R := R) (xs := xs.take m) (F := F) (e := e) hb (by rw [hl]; omega) h2 h3 ?_
    · rw [hl] at this; exact this
    · rw [hl]
      have f1 := Row.flatMap_sub R xs 0 m (by omega)
      simp only [List.drop_zero, Nat.zero_mul] at f1
      rw [f1]
      refine ⟨by simp only [List.length_take, flatMap_len]; have := h4.1; simp only [List.length_take, flatMap_len] at this; omega, fun j T u hT hu => ?_⟩
      rw [List.getElem?_take] at hT hu
      split at hT
      · rename_i hj
        rw [if_pos hj] at hu
        exact h4.2 j T u hT (by rw [List.getElem?_take, if_pos (by omega)]; exact hu)
      · cases hT
theorem own_row {xs ys : List α} {b n cap : Nat} {i j : Int} {F : Blk} {w : World} (h : (own R e xs (.slice (some ⟨b, 0, none⟩) n cap)).ok F w) (hs : sub xs i j = some ys) : Row (ys.flatMap R.cs) F w b (i.toNat * R.n) := by
  obtain ⟨c0, c1, c2, hy, hl⟩ := sub_eq hs
  rcases own_cells h with ⟨hv, _⟩ | ⟨b', cap', cur, hv, hb, h1, h2, h3, h4⟩
  · simp at hv
  · simp only [Value.slice.injEq, Option.some.injEq, Addr.mk.injEq, and_true] at hv
    obtain ⟨rfl, rfl, rfl⟩ := hv
    have hrow : Row (xs.flatMap R.cs) F w b 0 := fun q T hT => by
      have hj : q < (cur.toList.take (xs.length * R.n)).length := by rw [h4.1]; exact (List.getElem?_eq_some_iff.1 hT).1
      refine ⟨(cur.toList.take (xs.length * R.n))[q], ?_, h4.2 q T _ hT (List.getElem?_eq_getElem hj)⟩
      have hj2 : q < cur.size := by simp at hj; omega
      simp [World.cell?, hb, hj2]
    rw [hy, Row.flatMap_sub R xs _ _ (by omega)]
    have := (hrow.part (i.toNat * R.n)).head (Us := ((xs.flatMap R.cs).drop (i.toNat * R.n)).take ((j.toNat - i.toNat) * R.n)) (by rw [List.length_take, List.take_eq_take_iff]; simp)
    simpa using this
theorem cut_nil {m : Nat} {i j : Int} {α : Type} {ys : List α} (h : sub ([] : List α) i j = some ys) : cutV m (.slice none 0 0) i j = .slice none 0 0 ∧ ys = [] := by
  obtain ⟨c0, c1, c2, hy, hl⟩ := sub_eq h
  have hj : j.toNat = 0 := by simpa using c2
  have hi : i.toNat = 0 := by omega
  refine ⟨by simp [cutV, hi, hj], by rw [hy]; simp⟩
theorem cut_first {m b n cap : Nat} {j : Int} : cutV m (.slice (some ⟨b, 0, none⟩) n cap) 0 j = .slice (some ⟨b, 0, none⟩) j.toNat cap := by
  simp [cutV, addr_add]
theorem cut_some {m b n cap : Nat} {i j : Int} {xs ys : List α} (hs : sub xs i j = some ys) (hn : xs.length ≤ cap) (hy : ys ≠ []) : cutV m (.slice (some ⟨b, 0, none⟩) n cap) i j = .slice (some ⟨b, i.toNat * m, none⟩) ys.length (cap - i.toNat) := by
  obtain ⟨c0, c1, c2, _, hl⟩ := sub_eq hs
  have : 0 < ys.length := List.length_pos_iff.2 hy
  simp only [cutV]
  rw [if_neg (by omega), hl]
  simp [addr_add]

/-- An append of a part of a slice to its beginning. -/
theorem op_appendCut {xs ya yb : List α} {hi lo hi2 : Int} (ht : P.underlying t = some (.slice e)) (hz : TOk P e R bytes z) (hb : bytes ≤ 2048) (hx : Fct Γ x (tv (cutV R.n v 0 hi))) (hy : Fct Γ y (tv (cutV R.n v lo hi2))) (hs : sub xs 0 hi = some ya) (hs2 : sub xs lo hi2 = some yb)
    (h : rm (ya.length + yb.length) = some ()) : OpJ P ⟨d, .call { callee := .builtin .append, args := #[x, y], argTypes := #[t, t] }, ty, pos, af, g⟩ Γ [] [own R e xs v] (fun v' => [own R e (ya ++ yb) v']) (fun v' => tv v') := by
  intro M w A hM _ hE _ _ he
  obtain ⟨ho, hfp⟩ := hE _ (List.mem_singleton.2 rfl)
  have hgiv := given_fp hE
  have h1 := hx.val (by simp [Op.operands, Call.operands]) he
  have h2 := hy.val (by simp [Op.operands, Call.operands]) he
  obtain ⟨v1, ad, c, e1, e2, ho1, hf1, hr⟩ : ∃ v1 ad c, cutV R.n v 0 hi = v1 ∧ cutV R.n v lo hi2 = .slice ad yb.length c ∧ (own R e ya v1).ok (free M w) w ∧ (∀ k, (own R e ya v1).fp k ↔ (own R e xs v).fp k) ∧ (yb ≠ [] → ∃ b off, ad = some ⟨b, off, none⟩ ∧ Row (yb.flatMap R.cs) (free M w) w b off) := by
    rcases own_cells ho with ⟨hv, hxs⟩ | ⟨b, cap, cur, hv, _, hlc, _⟩
    · subst hv; subst hxs
      obtain ⟨a1, rfl⟩ := cut_nil (m := R.n) hs
      obtain ⟨a2, rfl⟩ := cut_nil (m := R.n) hs2
      exact ⟨_, none, 0, a1, a2, own_nil_ok, fun k => Iff.rfl, fun h => (h rfl).elim⟩
    · obtain ⟨_, _, c2, hya, hla⟩ := sub_eq hs
      have hya' : ya = xs.take hi.toNat := by rw [hya]; simp
      subst hv
      refine ⟨_, (match cutV R.n (.slice (some ⟨b, 0, none⟩) xs.length cap) lo hi2 with | .slice ad _ _ => ad | _ => none), cap - lo.toNat, cut_first, ?_, by rw [hya']; exact own_shrink ho c2, fun k => by rw [own_fp, own_fp], fun hne => ?_⟩
      · obtain ⟨_, _, _, _, hlb⟩ := sub_eq hs2
        simp only [cutV, hlb]
      · rw [cut_some hs2 hlc hne]
        exact ⟨b, lo.toNat * R.n, rfl, own_row ho hs2⟩
  obtain ⟨v', w', hrun, hstep, hfp', hok⟩ := run_append (ty := ty) (c := c) (F := free M w) (F' := fun k => k < w.heap.size ∧ ¬ M k) ht hz hb ho1 (fun k hk => ⟨hk.1, fun hf => hk.2 (hfp k ((hf1 k).1 hf))⟩) (fun k hk => hk) hr h
  have hexec : (execOp A.eval (⟨d, .call { callee := .builtin .append, args := #[x, y], argTypes := #[t, t] }, ty, pos, af, g⟩ : Oper)).run P w = .ok (.value v') w' := by
    simp only [execOp, resolve, invoke, builtin, Sem.run_bind, Sem.run_pure, Result.andThen_ok, List.map_toArray, List.map_cons, List.map_nil, h1, h2, e1, e2, hrun]
  simp only [Does, hexec]
  refine ⟨v', hstep.mono (fun k hk => eatFp_one.2 ((hf1 k).1 hk)), made_one (fun k hk => ⟨(hfp' k hk).1.imp (fun h => eatFp_one.2 ((hf1 k).1 h)) id, (hfp' k hk).2⟩) ?_, rfl⟩
  refine Atom.keep _ (fun k hk => ?_) (fun _ _ => rfl) (fun _ _ => rfl) hok
  refine free_next hstep.size hgiv (fun B hB j hj => ?_) hk
  obtain rfl := List.mem_singleton.1 hB
  exact (hfp' j hj).1.imp (fun h => eatFp_one.2 ((hf1 j).1 h)) id

end

/-! Results that are tables -/

/-! Tests of constants -/

end Go.Sim
