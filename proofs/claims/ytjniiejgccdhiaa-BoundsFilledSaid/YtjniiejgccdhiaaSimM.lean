/- The logic's thirteenth part: bits, parts of a slice that the call owns, results that are tables. No condition. -/
import Derived.Test.YtjniiejgccdhiaaSimL
namespace Go.Sim

def iand (k : IntKind) (a b : Int) : Int := k.wrap ((BitVec.ofInt k.bits a &&& BitVec.ofInt k.bits b).toNat : Int)
def ior (k : IntKind) (a b : Int) : Int := k.wrap ((BitVec.ofInt k.bits a ||| BitVec.ofInt k.bits b).toNat : Int)
def ixor (k : IntKind) (a b : Int) : Int := k.wrap ((BitVec.ofInt k.bits a ^^^ BitVec.ofInt k.bits b).toNat : Int)
def iandn (k : IntKind) (a b : Int) : Int := k.wrap ((BitVec.ofInt k.bits a &&& ~~~BitVec.ofInt k.bits b).toNat : Int)
def ishl (k : IntKind) (a b : Int) : Int := k.wrap (a * 2 ^ (min b.toNat k.bits))
def ishr (k : IntKind) (a b : Int) : Int := a.fdiv (2 ^ (min b.toNat k.bits))
def nn (b : Int) : Option Unit := if 0 ≤ b then some () else none
theorem nn_le {b : Int} {u : Unit} (h : nn b = some u) : 0 ≤ b := by unfold nn at h; split at h <;> first | assumption | cases h

/-- The value of a part of a slice. -/
def cutV (m : Nat) (v : Value) (i j : Int) : Value := match v with
  | .slice ad _ cap => .slice (if cap = i.toNat then ad else ad.map (·.add (i.toNat * m))) (j.toNat - i.toNat) (cap - i.toNat)
  | x => x

theorem sub_eq {α : Type} {xs ys : List α} {i j : Int} (h : sub xs i j = some ys) : 0 ≤ i ∧ i ≤ j ∧ j.toNat ≤ xs.length ∧ ys = (xs.drop i.toNat).take (j.toNat - i.toNat) ∧ ys.length = j.toNat - i.toNat := by
  unfold sub at h
  split at h
  · rename_i hc
    obtain rfl := Option.some.inj h
    exact ⟨hc.1, hc.2.1, by omega, rfl, by simp; omega⟩
  · cases h

section
variable {Γ : List (Nat × Ty)} {P : Program} {d : Option Tmp} {ty : TypeId} {pos : String} {af : Array Edge} {g : Option (Nat × Bool)} {x y : Operand} {T : Ty} {t t2 e : TypeId} {α : Type} {R : Rep α} {bytes : Nat} {z : Value} {v : Value} {k k2 : IntKind} {a b : Int}

theorem op_iand (hx : Fct Γ x (tv (.int k a))) (hy : Fct Γ y (tv (.int k b))) : OpJ P ⟨d, .binOp .and t x y t2, ty, pos, af, g⟩ Γ [] [] (fun _ => []) (fun _ => tv (.int k (iand k a b))) :=
  opj_bin hx hy fun w => by simp [eqGuard, binOp, Op.intBits, iand]
theorem op_ior (hx : Fct Γ x (tv (.int k a))) (hy : Fct Γ y (tv (.int k b))) : OpJ P ⟨d, .binOp .or t x y t2, ty, pos, af, g⟩ Γ [] [] (fun _ => []) (fun _ => tv (.int k (ior k a b))) :=
  opj_bin hx hy fun w => by simp [eqGuard, binOp, Op.intBits, ior]
theorem op_ixor (hx : Fct Γ x (tv (.int k a))) (hy : Fct Γ y (tv (.int k b))) : OpJ P ⟨d, .binOp .xor t x y t2, ty, pos, af, g⟩ Γ [] [] (fun _ => []) (fun _ => tv (.int k (ixor k a b))) :=
  opj_bin hx hy fun w => by simp [eqGuard, binOp, Op.intBits, ixor]
theorem op_iandn (hx : Fct Γ x (tv (.int k a))) (hy : Fct Γ y (tv (.int k b))) : OpJ P ⟨d, .binOp .andNot t x y t2, ty, pos, af, g⟩ Γ [] [] (fun _ => []) (fun _ => tv (.int k (iandn k a b))) :=
  opj_bin hx hy fun w => by simp [eqGuard, binOp, Op.intBits, iandn]
theorem op_ishl (hx : Fct Γ x (tv (.int k a))) (hy : Fct Γ y (tv (.int k2 b))) (h : 0 ≤ b) : OpJ P ⟨d, .binOp .shl t x y t2, ty, pos, af, g⟩ Γ [] [] (fun _ => []) (fun _ => tv (.int k (ishl k a b))) :=
  opj_bin hx hy fun w => by simp [eqGuard, binOp, Op.shift, ishl, Int.not_lt.2 h]
theorem op_ishr (hx : Fct Γ x (tv (.int k a))) (hy : Fct Γ y (tv (.int k2 b))) (h : 0 ≤ b) : OpJ P ⟨d, .binOp .shr t x y t2, ty, pos, af, g⟩ Γ [] [] (fun _ => []) (fun _ => tv (.int k (ishr k a b))) :=
  opj_bin hx hy fun w => by simp [eqGuard, binOp, Op.shift, ishr, Int.not_lt.2 h]

theorem own_hdr {xs : List α} {v : Value} {F : Blk} {w : World} (h : (own R e xs v).ok F w) : ∃ ad cap, v = .slice ad xs.length cap ∧ xs.length ≤ cap := by
  rcases own_cells h with ⟨hv, hn⟩ | ⟨b, cap, cur, hv, _, h1, _⟩
  · subst hn; exact ⟨none, 0, hv, Nat.le_refl _⟩
  · exact ⟨_, cap, hv, h1⟩
/-- A part of a slice that the call owns. -/
theorem op_cut {xs ys : List α} {lo hi : Option Operand} {i j : Int} (ht : P.underlying t = some (.slice e)) (hz : TOk P e R bytes z) (hx : Fct Γ x (tv v)) (hlo : Bd Γ lo 0 i) (hhi : Bd Γ hi xs.length j) (h : sub xs i j = some ys) :
    OpJ P ⟨d, .slice t x lo hi none, ty, pos, af, g⟩ Γ [own R e xs v] [] (fun _ => []) (fun _ => tv (cutV R.n v i j)) :=
  opj_use fun M w A hU he => by
    obtain ⟨ad, cap, hv, hlc⟩ := own_hdr (hU _ (List.mem_singleton.2 rfl))
    have hxv := hx.val (by simp [Op.operands]) he
    obtain ⟨ti, hti, _, hs, _⟩ := hz.info
    obtain ⟨c0, c1, c2, _, _⟩ := sub_eq h
    have hb : (Instr.sliceBounds true xs.length cap (lo.map A.eval) (hi.map A.eval) none).run P w = .ok (i.toNat, j.toNat, cap) w := by
      rcases hlo.use (by rintro y rfl; simp [Op.operands]) he with ⟨e1, e2⟩ | ⟨k1, e1⟩ <;> rcases hhi.use (by rintro y rfl; simp [Op.operands]) he with ⟨f1, f2⟩ | ⟨k2, f1⟩
      · rw [e1, f1, e2, f2]; simp [Instr.sliceBounds]
      · rw [e1, f1, e2]
        simp only [Instr.sliceBounds, Sem.run_bind, Sem.run_pure, Result.andThen_ok, run_sliceBound w k2 j cap _ (by omega) (by omega)]
        rfl
      · rw [e1, f1, f2]
        simp only [Instr.sliceBounds, Sem.run_bind, Sem.run_pure, Result.andThen_ok, run_sliceBound w k1 i xs.length _ c0 (by omega)]
        simp
      · rw [e1, f1]
        simp only [Instr.sliceBounds, Sem.run_bind, Sem.run_pure, Result.andThen_ok, run_sliceBound w k2 j cap _ (by omega) (by omega), run_sliceBound w k1 i j.toNat _ c0 (by omega)]
    refine ⟨cutV R.n v i j, ?_, rfl⟩
    subst hv
    simp [execOp, Instr.sliceAt, run_underlying ht, Instr.slice, hxv, hb, sizeOf, typeInfo, hti, hs, cutV]

theorem own_shrink {xs : List α} {b n cap m : Nat} {F : Blk} {w : World} (h : (own R e xs (.slice (some ⟨b, 0, none⟩) n cap)).ok F w) (hm : m ≤ xs.length) : (own R e (xs.take m) (.slice (some ⟨b, 0, none⟩) m cap)).ok F w := by
  rcases own_cells h with ⟨hv, _⟩ | ⟨b', cap', cur, hv, hb, h1, h2, h3, h4⟩
  · simp at hv
  · simp only [Value.slice.injEq, Option.some.injEq, Addr.mk.injEq, and_true] at hv
    obtain ⟨rfl, rfl, rfl⟩ := hv
    have hl : (xs.take m).length = m := by simp; omega
    have hmm : m * R.n ≤ xs.length * R.n := Nat.mul_le_mul_right _ hm
    have := own_mk (R := R) (xs := xs.take m) (F := F) (e := e) hb (by rw [hl]; omega) h2 h3 ?_
    · rw [hl] at this; exact this
    · rw [hl]
      have f1 := Row.flatMap_sub R xs 0 m (by omega)
      simp only [List.drop_zero, Nat.zero_mul] at f1
      rw [f1]
      refine ⟨by simp only [List.length_take, flatMap_len]; have := h4.1; simp only [List.length_take, flatMap_len] at this; omega, fun j T u hT hu => ?_⟩
      rw [List.getElem?_take] at hT hu
      split at hT
      · rename_i hj
        rw [if_pos hj] at hu
        exact h4.2 j T u hT (by rw [List.getElem?_take, if_pos (by omega)]; exact hu)
      · cases hT
theorem own_row {xs ys : List α} {b n cap : Nat} {i j : Int} {F : Blk} {w : World} (h : (own R e xs (.slice (some ⟨b, 0, none⟩) n cap)).ok F w) (hs : sub xs i j = some ys) : Row (ys.flatMap R.cs) F w b (i.toNat * R.n) := by
  obtain ⟨c0, c1, c2, hy, hl⟩ := sub_eq hs
  rcases own_cells h with ⟨hv, _⟩ | ⟨b', cap', cur, hv, hb, h1, h2, h3, h4⟩
  · simp at hv
  · simp only [Value.slice.injEq, Option.some.injEq, Addr.mk.injEq, and_true] at hv
    obtain ⟨rfl, rfl, rfl⟩ := hv
    have hrow : Row (xs.flatMap R.cs) F w b 0 := fun q T hT => by
      have hj : q < (cur.toList.take (xs.length * R.n)).length := by rw [h4.1]; exact (List.getElem?_eq_some_iff.1 hT).1
      refine ⟨(cur.toList.take (xs.length * R.n))[q], ?_, h4.2 q T _ hT (List.getElem?_eq_getElem hj)⟩
      have hj2 : q < cur.size := by simp at hj; omega
      simp [World.cell?, hb, hj2]
    rw [hy, Row.flatMap_sub R xs _ _ (by omega)]
    have := (hrow.part (i.toNat * R.n)).head (Us := ((xs.flatMap R.cs).drop (i.toNat * R.n)).take ((j.toNat - i.toNat) * R.n)) (by rw [List.length_take, List.take_eq_take_iff]; simp)
    simpa using this
theorem cut_nil {m : Nat} {i j : Int} {α : Type} {ys : List α} (h : sub ([] : List α) i j = some ys) : cutV m (.slice none 0 0) i j = .slice none 0 0 ∧ ys = [] := by
  obtain ⟨c0, c1, c2, hy, hl⟩ := sub_eq h
  have hj : j.toNat = 0 := by simpa using c2
  have hi : i.toNat = 0 := by omega
  refine ⟨by simp [cutV, hi, hj], by rw [hy]; simp⟩
theorem cut_first {m b n cap : Nat} {j : Int} : cutV m (.slice (some ⟨b, 0, none⟩) n cap) 0 j = .slice (some ⟨b, 0, none⟩) j.toNat cap := by
  simp [cutV, addr_add]
theorem cut_some {m b n cap : Nat} {i j : Int} {xs ys : List α} (hs : sub xs i j = some ys) (hn : xs.length ≤ cap) (hy : ys ≠ []) : cutV m (.slice (some ⟨b, 0, none⟩) n cap) i j = .slice (some ⟨b, i.toNat * m, none⟩) ys.length (cap - i.toNat) := by
  obtain ⟨c0, c1, c2, _, hl⟩ := sub_eq hs
  have : 0 < ys.length := List.length_pos_iff.2 hy
  simp only [cutV]
  rw [if_neg (by omega), hl]
  simp [addr_add]

/-- An append of a part of a slice to its beginning. -/
theorem op_appendCut {xs ya yb : List α} {hi lo hi2 : Int} (ht : P.underlying t = some (.slice e)) (hz : TOk P e R bytes z) (hb : bytes ≤ 2048) (hx : Fct Γ x (tv (cutV R.n v 0 hi))) (hy : Fct Γ y (tv (cutV R.n v lo hi2))) (hs : sub xs 0 hi = some ya) (hs2 : sub xs lo hi2 = some yb)
    (h : rm (ya.length + yb.length) = some ()) : OpJ P ⟨d, .call { callee := .builtin .append, args := #[x, y], argTypes := #[t, t] }, ty, pos, af, g⟩ Γ [] [own R e xs v] (fun v' => [own R e (ya ++ yb) v']) (fun v' => tv v') := by
  intro M w A hM _ hE _ _ he
  obtain ⟨ho, hfp⟩ := hE _ (List.mem_singleton.2 rfl)
  have hgiv := given_fp hE
  have h1 := hx.val (by simp [Op.operands, Call.operands]) he
  have h2 := hy.val (by simp [Op.operands, Call.operands]) he
  obtain ⟨v1, ad, c, e1, e2, ho1, hf1, hr⟩ : ∃ v1 ad c, cutV R.n v 0 hi = v1 ∧ cutV R.n v lo hi2 = .slice ad yb.length c ∧ (own R e ya v1).ok (free M w) w ∧ (∀ k, (own R e ya v1).fp k ↔ (own R e xs v).fp k) ∧ (yb ≠ [] → ∃ b off, ad = some ⟨b, off, none⟩ ∧ Row (yb.flatMap R.cs) (free M w) w b off) := by
    rcases own_cells ho with ⟨hv, hxs⟩ | ⟨b, cap, cur, hv, _, hlc, _⟩
    · subst hv; subst hxs
      obtain ⟨a1, rfl⟩ := cut_nil (m := R.n) hs
      obtain ⟨a2, rfl⟩ := cut_nil (m := R.n) hs2
      exact ⟨_, none, 0, a1, a2, own_nil_ok, fun k => Iff.rfl, fun h => (h rfl).elim⟩
    · obtain ⟨_, _, c2, hya, hla⟩ := sub_eq hs
      have hya' : ya = xs.take hi.toNat := by rw [hya]; simp
      subst hv
      refine ⟨_, (match cutV R.n (.slice (some ⟨b, 0, none⟩) xs.length cap) lo hi2 with | .slice ad _ _ => ad | _ => none), cap - lo.toNat, cut_first, ?_, by rw [hya']; exact own_shrink ho c2, fun k => by rw [own_fp, own_fp], fun hne => ?_⟩
      · obtain ⟨_, _, _, _, hlb⟩ := sub_eq hs2
        simp only [cutV, hlb]
      · rw [cut_some hs2 hlc hne]
        exact ⟨b, lo.toNat * R.n, rfl, own_row ho hs2⟩
  obtain ⟨v', w', hrun, hstep, hfp', hok⟩ := run_append (ty := ty) (c := c) (F := free M w) (F' := fun k => k < w.heap.size ∧ ¬ M k) ht hz hb ho1 (fun k hk => ⟨hk.1, fun hf => hk.2 (hfp k ((hf1 k).1 hf))⟩) (fun k hk => hk) hr h
  have hexec : (execOp A.eval (⟨d, .call { callee := .builtin .append, args := #[x, y], argTypes := #[t, t] }, ty, pos, af, g⟩ : Oper)).run P w = .ok (.value v') w' := by
    simp only [execOp, resolve, invoke, builtin, Sem.run_bind, Sem.run_pure, Result.andThen_ok, List.map_toArray, List.map_cons, List.map_nil, h1, h2, e1, e2, hrun]
  simp only [Does, hexec]
  refine ⟨v', hstep.mono (fun k hk => eatFp_one.2 ((hf1 k).1 hk)), made_one (fun k hk => ⟨(hfp' k hk).1.imp (fun h => eatFp_one.2 ((hf1 k).1 h)) id, (hfp' k hk).2⟩) ?_, rfl⟩
  refine Atom.keep _ (fun k hk => ?_) (fun _ _ => rfl) (fun _ _ => rfl) hok
  refine free_next hstep.size hgiv (fun B hB j hj => ?_) hk
  obtain rfl := List.mem_singleton.1 hB
  exact (hfp' j hj).1.imp (fun h => eatFp_one.2 ((hf1 j).1 h)) id

theorem op_appendCutP {xs ya yb : List α} {hi : Int} (ht : P.underlying t = some (.slice e)) (hz : TOk P e R bytes z) (hb : bytes ≤ 2048) (hx : Fct Γ x (tv (cutV R.n v 0 hi))) (hy : Fct Γ y (tsl R yb)) (hs : sub xs 0 hi = some ya)
    (h : rm (ya.length + yb.length) = some ()) : OpJ P ⟨d, .call { callee := .builtin .append, args := #[x, y], argTypes := #[t, t] }, ty, pos, af, g⟩ Γ [] [own R e xs v] (fun v' => [own R e (ya ++ yb) v']) (fun v' => tv v') := by
  intro M w A hM _ hE _ _ he
  obtain ⟨ho, hfp⟩ := hE _ (List.mem_singleton.2 rfl)
  have hgiv := given_fp hE
  have h1 := hx.val (by simp [Op.operands, Call.operands]) he
  obtain ⟨ad, c, h2, _, hr0⟩ := hy.use (by simp [Op.operands, Call.operands]) he
  have hr : yb ≠ [] → ∃ b off, ad = some ⟨b, off, none⟩ ∧ Row (yb.flatMap R.cs) (free M w) w b off := fun hne => let ⟨b, off, ha, _, hrow⟩ := hr0 hne; ⟨b, off, ha, hrow⟩
  obtain ⟨v1, e1, ho1, hf1⟩ : ∃ v1, cutV R.n v 0 hi = v1 ∧ (own R e ya v1).ok (free M w) w ∧ (∀ k, (own R e ya v1).fp k ↔ (own R e xs v).fp k) := by
    rcases own_cells ho with ⟨hv, hxs⟩ | ⟨b, cap, cur, hv, _, hlc, _⟩
    · subst hv; subst hxs
      obtain ⟨a1, rfl⟩ := cut_nil (m := R.n) hs
      exact ⟨_, a1, own_nil_ok, fun k => Iff.rfl⟩
    · obtain ⟨_, _, c2, hya, hla⟩ := sub_eq hs
      have hya' : ya = xs.take hi.toNat := by rw [hya]; simp
      subst hv
      exact ⟨_, cut_first, by rw [hya']; exact own_shrink ho c2, fun k => by rw [own_fp, own_fp]⟩
  obtain ⟨v', w', hrun, hstep, hfp', hok⟩ := run_append (ty := ty) (c := c) (F := free M w) (F' := fun k => k < w.heap.size ∧ ¬ M k) ht hz hb ho1 (fun k hk => ⟨hk.1, fun hf => hk.2 (hfp k ((hf1 k).1 hf))⟩) (fun k hk => hk) hr h
  have hexec : (execOp A.eval (⟨d, .call { callee := .builtin .append, args := #[x, y], argTypes := #[t, t] }, ty, pos, af, g⟩ : Oper)).run P w = .ok (.value v') w' := by
    simp only [execOp, resolve, invoke, builtin, Sem.run_bind, Sem.run_pure, Result.andThen_ok, List.map_toArray, List.map_cons, List.map_nil, h1, h2, e1, hrun]
  simp only [Does, hexec]
  refine ⟨v', hstep.mono (fun k hk => eatFp_one.2 ((hf1 k).1 hk)), made_one (fun k hk => ⟨(hfp' k hk).1.imp (fun h => eatFp_one.2 ((hf1 k).1 h)) id, (hfp' k hk).2⟩) ?_, rfl⟩
  refine Atom.keep _ (fun k hk => ?_) (fun _ _ => rfl) (fun _ _ => rfl) hok
  refine free_next hstep.size hgiv (fun B hB j hj => ?_) hk
  obtain rfl := List.mem_singleton.1 hB
  exact (hfp' j hj).1.imp (fun h => eatFp_one.2 ((hf1 j).1 h)) id

/-- A copy from one part of a slice to another one. -/
theorem op_copyCut {xs ds ss : List α} {lo hi lo2 hi2 : Int} {ta : Array TypeId} (ht : P.underlying t = some (.slice e)) (hta : ta[0]? = some t) (hz : TOk P e R bytes z) (hx : Fct Γ x (tv (cutV R.n v lo hi))) (hy : Fct Γ y (tv (cutV R.n v lo2 hi2))) (hs : sub xs lo hi = some ds) (hs2 : sub xs lo2 hi2 = some ss) :
    OpJ P ⟨d, .call { callee := .builtin .copy, args := #[x, y], argTypes := ta }, ty, pos, af, g⟩ Γ [] [own R e xs v] (fun _ => [own R e (xs.take lo.toNat ++ cpy ds ss ++ xs.drop hi.toNat) v]) (fun _ => tv (.int .i64 (Nat.min ss.length ds.length))) := by
  intro M w A hM _ hE _ _ he
  obtain ⟨ho, hfp⟩ := hE _ (List.mem_singleton.2 rfl)
  have hgiv := given_fp hE
  have h1 := hx.val (by simp [Op.operands, Call.operands]) he
  have h2 := hy.val (by simp [Op.operands, Call.operands]) he
  obtain ⟨ti, hti, _, hsz, _⟩ := hz.info
  have hex : ∀ r w', (Builtin.copy_ ta ty #[cutV R.n v lo hi, cutV R.n v lo2 hi2]).run P w = .ok r w' → (execOp A.eval (⟨d, .call { callee := .builtin .copy, args := #[x, y], argTypes := ta }, ty, pos, af, g⟩ : Oper)).run P w = .ok (.value r) w' := by
    intro r w' hr
    simp only [execOp, resolve, invoke, builtin, Sem.run_bind, Sem.run_pure, Result.andThen_ok, List.map_toArray, List.map_cons, List.map_nil, h1, h2, hr]
  rcases own_cells ho with ⟨hv, hxs⟩ | ⟨b, cap, cur, hv, hbk, hlc, hmx, hcs, hcl⟩
  · subst hv; subst hxs
    obtain ⟨a1, rfl⟩ := cut_nil (m := R.n) hs
    obtain ⟨a2, rfl⟩ := cut_nil (m := R.n) hs2
    have hr := hex (.int .i64 0) w (by rw [a1, a2]; simp [Builtin.copy_, hta, run_underlying ht, Builtin.lenOf, sizeOf, typeInfo, hti, Builtin.firstCells, goInt])
    simp only [Does, hr]
    refine ⟨undef, Step.refl _ _, made_one (fun k hk => ⟨.inl (eatFp_one.2 hk), hM k (hfp k hk)⟩) ?_, rfl⟩
    simp only [List.take_nil, cpy, List.length_nil, List.drop_nil, List.append_nil, List.take_zero]
    exact own_nil_ok
  · obtain ⟨c0, c1, c2, hd, hdl⟩ := sub_eq hs
    obtain ⟨g0, g1, g2, _, hsl⟩ := sub_eq hs2
    subst hv
    obtain ⟨ad, c, hc1⟩ : ∃ ad c, cutV R.n (.slice (some ⟨b, 0, none⟩) xs.length cap) lo hi = .slice ad ds.length c := ⟨_, _, by simp only [cutV, hdl]; rfl⟩
    obtain ⟨ad2, c', hc2⟩ : ∃ ad c, cutV R.n (.slice (some ⟨b, 0, none⟩) xs.length cap) lo2 hi2 = .slice ad ss.length c := ⟨_, _, by simp only [cutV, hsl]; rfl⟩
    obtain ⟨m, hm⟩ : ∃ m, m = Nat.min ss.length ds.length := ⟨_, rfl⟩
    have hm1 : m ≤ ss.length := by rw [hm]; exact Nat.min_le_left _ _
    have hm2 : m ≤ ds.length := by rw [hm]; exact Nat.min_le_right _ _
    have hlox : lo.toNat + ds.length = hi.toNat := by omega
    by_cases h0 : m = 0
    · have hcp : cpy ds ss = ds := by
        unfold cpy
        have : ds = [] ∨ ss = [] := by
          have h5 : min ss.length ds.length = 0 := by rw [h0] at hm; exact hm.symm
          rcases Nat.le_total ss.length ds.length with h | h
          · right; exact List.eq_nil_of_length_eq_zero (by omega)
          · left; exact List.eq_nil_of_length_eq_zero (by omega)
        rcases this with h | h
        · rw [h]; simp
        · rw [h]; simp
      have hxx : xs.take lo.toNat ++ cpy ds ss ++ xs.drop hi.toNat = xs := by
        rw [hcp, hd, List.append_assoc]
        have : hi.toNat = lo.toNat + (hi.toNat - lo.toNat) := by omega
        conv => lhs; rhs; rhs; rw [this, ← List.drop_drop]
        rw [List.take_append_drop, List.take_append_drop]
      have hr := hex (.int .i64 0) w (by
        rw [hc1, hc2]
        have e0 : Nat.min ss.length ds.length = 0 := by rw [← hm]; exact h0
        cases ad <;> cases ad2 <;> simp [Builtin.copy_, hta, run_underlying ht, Builtin.lenOf, sizeOf, typeInfo, hti, Builtin.firstCells, goInt, e0, loadCells, loadCellsFrom, storeCells])
      simp only [Does, hr]
      refine ⟨undef, Step.refl _ _, made_one (fun k hk => ⟨.inl (eatFp_one.2 hk), hM k (hfp k hk)⟩) ?_, by rw [← hm, h0]; rfl⟩
      rw [hxx]
      refine Atom.keep _ (fun k hk => ?_) (fun _ _ => rfl) (fun _ _ => rfl) ho
      refine free_next (Nat.le_refl _) hgiv (fun B hB j hj => ?_) hk
      obtain rfl := List.mem_singleton.1 hB
      exact .inl (eatFp_one.2 hj)
    · have hdne : ds ≠ [] := fun h => by rw [h] at hm2; simp at hm2; exact h0 hm2
      have hsne : ss ≠ [] := fun h => by rw [h] at hm1; simp at hm1; exact h0 hm1
      have hk1 := cut_some (m := R.n) (b := b) (n := xs.length) hs hlc hdne
      have hk2 := cut_some (m := R.n) (b := b) (n := xs.length) hs2 hlc hsne
      obtain ⟨vs, hvs, hcell⟩ := row_list _ _ (own_row ho hs2)
      have hvl : vs.length = ss.length * R.n := by rw [hvs.1, flatMap_len]
      have hmy : m * R.n ≤ ss.length * R.n := Nat.mul_le_mul_right _ hm1
      have hmd : m * R.n ≤ ds.length * R.n := Nat.mul_le_mul_right _ hm2
      have hnl : (vs.take (m * R.n)).length = m * R.n := by simp; omega
      have hcells : Cells ((ss.flatMap R.cs).take (m * R.n)) (free M w) w (vs.take (m * R.n)) := ⟨by simp [hvs.1], fun j T u hT hu => by
        rw [List.getElem?_take] at hT hu
        split at hT
        · rw [if_pos (by assumption)] at hu; exact hvs.2 j T u hT hu
        · cases hT⟩
      have hone : ∀ u ∈ vs.take (m * R.n), u.oneCell' = true := by
        intro u hu
        obtain ⟨j, hj⟩ := List.mem_iff_getElem?.1 (List.mem_of_mem_take hu)
        have hjl : j < (ss.flatMap R.cs).length := by rw [← hvs.1]; exact (List.getElem?_eq_some_iff.1 hj).1
        have hT := hvs.2 j _ u (List.getElem?_eq_getElem hjl) hj
        obtain ⟨q, _, hq⟩ := List.mem_flatMap.1 (List.getElem_mem hjl)
        exact R.one q _ hq _ w u hT
      have hfc : (Builtin.firstCells R.n m (.slice (some ⟨b, lo2.toNat * R.n, none⟩) ss.length (cap - lo2.toNat))).run P w = .ok (vs.take (m * R.n)).toArray w := by
        have := run_loadCells_list (P := P) w ⟨b, lo2.toNat * R.n, none⟩ (vs.take (m * R.n)) (fun j u hj => by
          rw [List.getElem?_take] at hj
          split at hj
          · rw [addr_add]; exact hcell j u hj
          · cases hj)
        rw [hnl] at this
        simpa [Builtin.firstCells] using this
      have hxn : (lo.toNat + ds.length) * R.n ≤ xs.length * R.n := Nat.mul_le_mul_right _ (by omega)
      rw [Nat.add_mul] at hxn
      have hcapn : xs.length * R.n ≤ cap * R.n := Nat.mul_le_mul_right _ hlc
      have hst := run_storeCells_at P b (lo.toNat * R.n) e (vs.take (m * R.n)) 0 cur w hbk (by rw [hnl]; omega) hone
      simp only [Nat.add_zero] at hst
      have hr := hex (.int .i64 (Nat.min ss.length ds.length)) (w.setRow b (splice cur.toList (lo.toNat * R.n) (vs.take (m * R.n))).toArray) (by
        rw [hk1, hk2]
        have hlen : (Builtin.lenOf (.slice (some ⟨b, lo2.toNat * R.n, none⟩) ss.length (cap - lo2.toNat))).run P w = .ok ss.length w := by simp [Builtin.lenOf]
        simp only [Builtin.copy_, hta, run_underlying ht, List.getElem?_toArray, List.getElem?_cons_zero, List.getElem?_cons_succ, Sem.run_bind, hlen, Result.andThen_ok, sizeOf, typeInfo, run_program, hti, Sem.run_pure, ← hm, hsz, hfc, hst, goInt, splice])
      simp only [Does, hr]
      have heat : ∀ k, eatFp [own R e xs (.slice (some ⟨b, 0, none⟩) xs.length cap)] k ↔ k = b := fun k => by rw [eatFp_one, own_fp]
      refine ⟨undef, setRow_step ((heat b).2 rfl), made_one (fun k hk => ?_) ?_, rfl⟩
      · rw [own_fp] at hk
        rw [hk]
        exact ⟨.inl ((heat b).2 rfl), by simpa using (Array.getElem?_eq_some_iff.1 hbk).1⟩
      · have hyl : (xs.take lo.toNat ++ cpy ds ss ++ xs.drop hi.toNat).length = xs.length := by
          simp only [List.length_append, List.length_take, cpy_len, List.length_drop]; omega
        have key : ∀ F', (∀ k, free M w k → F' k) → (own R e (xs.take lo.toNat ++ cpy ds ss ++ xs.drop hi.toNat) (.slice (some ⟨b, 0, none⟩) (xs.take lo.toNat ++ cpy ds ss ++ xs.drop hi.toNat).length cap)).ok F' (w.setRow b (splice cur.toList (lo.toNat * R.n) (vs.take (m * R.n))).toArray) := ?key
        · have := key _ (fun k hk => free_next (w' := w.setRow b (splice cur.toList (lo.toNat * R.n) (vs.take (m * R.n))).toArray) (N := [own R e (xs.take lo.toNat ++ cpy ds ss ++ xs.drop hi.toNat) (.slice (some ⟨b, 0, none⟩) xs.length cap)]) (by simp) hgiv (fun B hB j hj => by
            obtain rfl := List.mem_singleton.1 hB
            rw [own_fp] at hj
            exact .inl ((heat j).2 hj)) hk)
          rw [hyl] at this
          exact this
        intro F' hF'
        refine own_mk (cur := (splice cur.toList (lo.toNat * R.n) (vs.take (m * R.n))).toArray) (setRow_heap w b cur _ e _ hbk) (by rw [hyl]; exact hlc) hmx (by rw [List.size_toArray, splice_len _ _ _ (by rw [hnl]; simp; omega)]; simpa using hcs) ?_
        rw [hyl]
        have e0 : ∀ ns : List Value, lo.toNat * R.n + ns.length ≤ xs.length * R.n → (splice cur.toList (lo.toNat * R.n) ns).take (xs.length * R.n) = splice (cur.toList.take (xs.length * R.n)) (lo.toNat * R.n) ns := by
          intro ns hns
          apply List.ext_getElem?
          intro j
          rw [List.getElem?_take, splice_get _ _ _ _ (by simp; omega), splice_get _ _ _ _ (by simp; omega), List.getElem?_take]
          by_cases hj : j < xs.length * R.n
          · rw [if_pos hj, if_pos hj]
          · rw [if_neg hj, if_neg hj, if_neg (by omega)]
        have e1 := e0 (vs.take (m * R.n)) (by rw [hnl]; omega)
        simp only
        rw [e1]
        have e2 : (xs.take lo.toNat ++ cpy ds ss ++ xs.drop hi.toNat).flatMap R.cs = splice (xs.flatMap R.cs) (lo.toNat * R.n) ((ss.flatMap R.cs).take (m * R.n)) := by
          have f0 : cpy ds ss = ss.take m ++ ds.drop m := by
            unfold cpy
            have e3 : ss.take ds.length = ss.take m := by
              rw [hm]
              change _ = ss.take (min ss.length ds.length)
              rcases Nat.le_total ss.length ds.length with h | h
              · rw [Nat.min_eq_left h, List.take_of_length_le h, List.take_length]
              · rw [Nat.min_eq_right h]
            have e4 : ds.drop ss.length = ds.drop m := by
              rw [hm]
              change _ = ds.drop (min ss.length ds.length)
              rcases Nat.le_total ss.length ds.length with h | h
              · rw [Nat.min_eq_left h]
              · rw [Nat.min_eq_right h, List.drop_of_length_le h, List.drop_length]
            rw [e3, e4]
          have f1 : xs.take lo.toNat ++ cpy ds ss ++ xs.drop hi.toNat = xs.take lo.toNat ++ ss.take m ++ xs.drop (lo.toNat + m) := by
            rw [f0, hd, List.drop_take, List.drop_drop]
            simp only [List.append_assoc]
            congr 2
            have : hi.toNat = lo.toNat + m + (hi.toNat - lo.toNat - m) := by omega
            conv => lhs; rhs; rw [this, ← List.drop_drop]
            rw [List.take_append_drop]
          have t1 := Row.flatMap_sub R xs 0 lo.toNat (by omega)
          simp only [List.drop_zero, Nat.zero_mul] at t1
          have t2 := Row.flatMap_sub R ss 0 m (by omega)
          simp only [List.drop_zero, Nat.zero_mul] at t2
          have t3 := Row.flatMap_sub R xs (lo.toNat + m) (xs.length - (lo.toNat + m)) (by omega)
          rw [List.take_of_length_le (l := xs.drop (lo.toNat + m)) (by simp)] at t3
          have t4 : ((xs.flatMap R.cs).drop ((lo.toNat + m) * R.n)).take ((xs.length - (lo.toNat + m)) * R.n) = (xs.flatMap R.cs).drop ((lo.toNat + m) * R.n) := List.take_of_length_le (by rw [List.length_drop, flatMap_len, Nat.sub_mul]; exact Nat.le_refl _)
          rw [f1, List.flatMap_append, List.flatMap_append, t1, t2, t3, t4]
          unfold splice
          rw [List.length_take, flatMap_len, Nat.min_eq_left hmy, Nat.add_mul]
        rw [e2]
        exact (hcl.splice hcells (by rw [List.length_take, flatMap_len, flatMap_len, Nat.min_eq_left hmy]; omega)).keepE hF' (fun k hk => setRow_other w b k _ (fun e => hk.2 (hgiv k ((heat k).2 e))))
end

/-! Results that are tables -/

/-- A table's value: the slice and its headers. -/
def tabV (x : Value) : Value := match x with | .tuple a => a.getD 0 undef | _ => undef
def tabU (x : Value) : List Value := match x with | .tuple a => (match a.getD 1 undef with | .agg us => us.toList | _ => []) | _ => []
def tabX (v : Value) (us : List Value) : Value := .tuple #[v, .agg us.toArray]
theorem tabV_mk (v : Value) (us : List Value) : tabV (tabX v us) = v := rfl
theorem tabU_mk (v : Value) (us : List Value) : tabU (tabX v us) = us := rfl

theorem FnOk.roT {α : Type} {R : Rep α} {P : Program} {f : FuncId} {Ts : List Ty} {e1 e2 : TypeId} {xss : List (List α)} {T : Value → Ty} {T' : Ty} (h : FnOk P f Ts [] (fun x => [own rVal e1 (tabU x) (tabV x), rows R e2 xss (tabU x)]) T)
    (hT : ∀ x F w v, (tsl (rSl R) xss).ok F w (tabV x) → (T x).ok F w v → T'.ok F w v) : FnOk P f Ts [] (fun _ => []) (fun _ => T') := by
  intro M w vs hM hE hap hc
  refine Calls.mono (h M w vs hM hE hap hc) ?_
  rintro en w' ⟨x, v, he, hg, hN, hty⟩
  have hfree : ∀ A, A ∈ ([own rVal e1 (tabU x) (tabV x), rows R e2 xss (tabU x)] : List Atom) → ∀ k, A.fp k → free M w' k := by
    intro A hA k hk
    have := hN.place A hA k hk
    refine ⟨this.2, fun hm => ?_⟩
    have h2 := hM k hm
    rcases this.1 with h | h
    · rw [eatFp_nil] at h; exact h
    · omega
  have hsub : ∀ k, free (next M [] [own rVal e1 (tabU x) (tabV x), rows R e2 xss (tabU x)]) w' k → free M w' k := by
    rintro k ⟨h1, h2⟩
    exact ⟨h1, fun hm => h2 (.inl ⟨hm, fun h => (by rw [eatFp_nil] at h; exact h)⟩)⟩
  have hsl : (tsl (rSl R) xss).ok (free M w') w' (tabV x) := tsl_of_table (R := R) (e1 := e1) (e2 := e2) hsub (hN.ok _ (.head _)) (hN.ok _ (.tail _ (.head _))) (hfree _ (.head _)) (hfree _ (.tail _ (.head _)))
  refine ⟨undef, v, he, hg, made_nil, ?_⟩
  simp only [next_nil]
  exact hT x _ _ _ hsl ((T x).keep hsub (fun _ _ => rfl) hty)
theorem roT_self {α : Type} {R : Rep α} {xss : List (List α)} : ∀ x F w v, (tsl (rSl R) xss).ok F w (tabV x) → (tv (tabV x)).ok F w v → (tsl (rSl R) xss).ok F w v := fun x F w v h hv => by have : v = tabV x := hv; rw [this]; exact h
theorem roT_tup0 {α : Type} {R : Rep α} {xss : List (List α)} {Ts : List Ty} : ∀ x F w v, (tsl (rSl R) xss).ok F w (tabV x) → (ttup (tv (tabV x) :: Ts)).ok F w v → (ttup (tsl (rSl R) xss :: Ts)).ok F w v := fun x F w v h ⟨us, hv, hc⟩ => by
  obtain ⟨u, vs, rfl, hu, hcs⟩ := hc.inv
  have : u = tabV x := hu
  subst this
  exact ⟨_, hv, .cons h hcs⟩

/-! Tests of constants -/

theorem wp_constF {P : Program} {a : Act} {w : World} {x y : Code} {Q : Exit → Act → World → Prop} (h : y.wp P Q a w) : (Code.cond (.const (.bool false)) x y).wp P Q a w := wp_cond_false rfl h
theorem wp_constT {P : Program} {a : Act} {w : World} {x y : Code} {Q : Exit → Act → World → Prop} (h : x.wp P Q a w) : (Code.cond (.const (.bool true)) x y).wp P Q a w := wp_cond_true rfl h

end Go.Sim
