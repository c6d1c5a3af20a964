/- The logic's ninth part: structs, stores into owned slices, comparisons, results that are only read. No condition. -/
import Derived.Test.YthdfmpocknmleaaGreatDoorSimH
namespace Go.Sim

theorem Cells.nil {F : Blk} {w : World} : Cells [] F w [] := ⟨rfl, fun j T u h => by simp at h⟩
theorem Cells.cons {T : Ty} {Ts : List Ty} {F : Blk} {w : World} {u : Value} {us : List Value} (h : T.ok F w u) (k : Cells Ts F w us) : Cells (T :: Ts) F w (u :: us) :=
  ⟨by simp [k.1], fun j T' u' hT hu => by
    cases j with
    | zero => simp at hT hu; subst hT; subst hu; exact h
    | succ j => exact k.2 j T' u' (by simpa using hT) (by simpa using hu)⟩
theorem Cells.inv {T : Ty} {Ts : List Ty} {F : Blk} {w : World} {us : List Value} (h : Cells (T :: Ts) F w us) : ∃ u vs, us = u :: vs ∧ T.ok F w u ∧ Cells Ts F w vs := by
  match us, h with
  | [], h => exact absurd h.1 (by simp)
  | u :: vs, h => exact ⟨u, vs, rfl, h.2 0 T u rfl rfl, by simpa using h.1, fun j T' u' hT hu => h.2 (j + 1) T' u' (by simpa using hT) (by simpa using hu)⟩
theorem Cells.inv0 {F : Blk} {w : World} {us : List Value} (h : Cells [] F w us) : us = [] := List.eq_nil_of_length_eq_zero h.1

def One (T : Ty) : Prop := ∀ F w v, T.ok F w v → v.oneCell' = true
theorem one_tv {u : Value} (h : u.oneCell' = true) : One (tv u) := fun _ _ v hv => by have : v = u := hv; rw [this]; exact h
theorem one_tsl {α : Type} {R : Rep α} {xs : List α} : One (tsl R xs) := fun _ _ _ hv => by obtain ⟨ad, cap, e, _⟩ := hv; rw [e]; rfl
theorem one_nil : ∀ T, T ∈ ([] : List Ty) → One T := fun T h => by simp at h
theorem one_cons {T : Ty} {Ts : List Ty} (h : One T) (hs : ∀ U, U ∈ Ts → One U) : ∀ U, U ∈ T :: Ts → One U := fun U hU => by
  rcases List.mem_cons.1 hU with rfl | hU
  · exact h
  · exact hs U hU

theorem flat_tv {u : Value} : FlatT (tv u) := fun _ _ _ _ h => h
section
variable {Γ : List (Nat × Ty)} {P : Program} {d : Option Tmp} {ty : TypeId} {pos : String} {af : Array Edge} {g : Option (Nat × Bool)} {x y : Operand} {T : Ty} {t e : TypeId} {α : Type} {R : Rep α} {bytes : Nat} {z : Value}

/-! Structs made of parts -/

inductive PartsB (Γ : List (Nat × Ty)) (pl : Array (Nat × Nat)) : List (Nat × Operand) → List Ty → List Ty → Prop where
  | nil (Ts : List Ty) : PartsB Γ pl [] Ts Ts
  | cons {i off : Nat} {α : Type} {R : Rep α} {u : α} {x : Operand} {ps : List (Nat × Operand)} {Ts Ts' : List Ty} (hp : pl[i]? = some (off, R.n)) (h : Fct Γ x (R.ty u)) (hl : off + R.n ≤ Ts.length)
      (hs : PartsB Γ pl ps (splice Ts off (R.cs u)) Ts') : PartsB Γ pl ((i, x) :: ps) Ts Ts'

theorem fill_partsB {pl : Array (Nat × Nat)} {F : Blk} {w : World} {A : Act} {ps : List (Nat × Operand)} {Ts Ts' : List Ty} (h : PartsB Γ pl ps Ts Ts') (he : ∀ p ∈ Γ, (∃ q ∈ ps, Operand.tmp p.1 = q.2) → p.2.ok F w (get A p.1)) :
    ∀ cs : Array Value, Cells Ts F w cs.toList → ∃ cs', Instr.fill (pl[·]?) cs (ps.map fun p => (p.1, A.eval p.2)) = some cs' ∧ Cells Ts' F w cs'.toList := by
  induction h with
  | nil => intro cs hc; exact ⟨cs, rfl, hc⟩
  | @cons i off α R u x ps Ts Ts' hp hx hl hs ih =>
    intro cs hc
    have hv := hx F w A (fun p hp hpx => he p hp ⟨(i, x), by simp, hpx⟩)
    obtain ⟨hcv, _, hn⟩ := cells_of_ty hv
    have hcl : cs.size = Ts.length := by simpa using hc.1
    have hvl : (A.eval x).cells.toList.length = R.n := by simpa using hn
    have hfs := foldl_set (A.eval x).cells.toList 0 off cs (by rw [hvl]; omega)
    simp only [Nat.add_zero] at hfs
    simp only [List.map_cons, Instr.fill, hp]
    rw [if_neg (by simp [hn]; omega)]
    refine ih (fun p hp ⟨q, hq, e⟩ => he p hp ⟨q, by simp [hq], e⟩) _ ?_
    rw [← Array.foldl_toList, Array.toList_zipIdx, hfs]
    exact hc.splice hcv (by rw [R.len]; exact hl)

theorem op_build {fs : Array Field} {pl : Array (Nat × Nat)} {ps : Array (Nat × Operand)} {Ts0 Ts' : List Ty} (hu : P.underlying t = some (.struct fs)) (hpl : ∀ w, ((fs.mapM fun f => do pure (f.offset, ← sizeOf f.type) : Sem (Array (Nat × Nat)))).run P w = .ok pl w)
    (hz : (P.info? t).bind (·.zero) = some z) (h0 : ∀ F w, Cells Ts0 F w z.cells.toList) (hps : PartsB Γ pl ps.toList Ts0 Ts') : OpJ P ⟨d, .build t ps, ty, pos, af, g⟩ Γ [] [] (fun _ => []) (fun _ => tagg Ts') :=
  opj_pure fun F w A he => by
    obtain ⟨cs', hf, hc⟩ := fill_partsB (A := A) (F := F) (w := w) hps (fun p hp ⟨q, hq, e⟩ => he p hp (by simp only [Op.operands, List.mem_toArray, List.mem_map]; exact ⟨q, hq, e.symm⟩)) z.cells (h0 F w)
    obtain ⟨ti, hti, hzz⟩ : ∃ ti, P.info? t = some ti ∧ ti.zero = some z := by
      cases h : P.info? t with
      | none => simp [h] at hz
      | some ti => exact ⟨ti, rfl, by simpa [h] using hz⟩
    refine ⟨.agg cs', ?_, cs'.toList, by simp, hc⟩
    have hzv : (zeroValue t).run P w = .ok z w := by simp [zeroValue, typeInfo, hti, hzz]
    have hf' : Instr.fill (fun x => pl[x]?) z.cells (ps.map fun p => (p.1, A.eval p.2)).toList = some cs' := by simpa using hf
    simp only [execOp, Instr.build, Sem.run_bind, hzv, Result.andThen_ok, run_underlying hu, hpl w, hf', Sem.run_pure]

/-- An array of all its elements. -/
theorem op_buildArr {n : Nat} {ps : Array (Nat × Operand)} {us : List α} (hu : P.underlying t = some (.array n e)) (hze : TOk P e R bytes z) {zt : Value} (hz : (P.info? t).bind (·.zero) = some zt) (hzn : zt.cells.size = us.length * R.n) (hps : Parts Γ R 0 ps.toList us) :
    OpJ P ⟨d, .build t ps, ty, pos, af, g⟩ Γ [] [] (fun _ => []) (fun _ => tagg (us.flatMap R.cs)) :=
  opj_pure fun F w A he => by
    obtain ⟨ti, hti, _, hs, _⟩ := hze.info
    obtain ⟨vs, hc, _, cs', hf, hcs⟩ := fill_parts (F := F) (w := w) (A := A) hps (fun p hp ⟨q, hq, e⟩ => he p hp (by simp only [Op.operands, List.mem_toArray, List.mem_map]; exact ⟨q, hq, e.symm⟩)) zt.cells (by rw [hzn]; simp)
    have hvl : vs.length = us.length * R.n := by rw [hc.1, flatMap_len]
    have hcs2 : cs'.toList = vs := by
      rw [hcs]
      simp [splice, hvl, hzn]
    obtain ⟨tj, htj, hzz⟩ : ∃ ti, P.info? t = some ti ∧ ti.zero = some zt := by
      cases h : P.info? t with
      | none => simp [h] at hz
      | some ti => exact ⟨ti, rfl, by simpa [h] using hz⟩
    refine ⟨.agg cs', ?_, cs'.toList, by simp, by rw [hcs2]; exact hc⟩
    have hzv : (zeroValue t).run P w = .ok zt w := by simp [zeroValue, typeInfo, htj, hzz]
    have hsz : (sizeOf e).run P w = .ok R.n w := by simp [sizeOf, typeInfo, hti, hs]
    have hf' : Instr.fill (fun i => some (i * R.n, R.n)) zt.cells (ps.map fun p => (p.1, A.eval p.2)).toList = some cs' := by simpa using hf
    simp only [execOp, Instr.build, Sem.run_bind, hzv, Result.andThen_ok, run_underlying hu, hsz, hf', Sem.run_pure]

/-! Comparisons -/

end

/-! Stores into an owned slice -/

theorem flatMap_set {α : Type} (R : Rep α) : ∀ (xs : List α) (i : Nat) (x : α), i < xs.length → (xs.set i x).flatMap R.cs = splice (xs.flatMap R.cs) (i * R.n) (R.cs x) := by
  intro xs
  induction xs with
  | nil => intro i x h; simp at h
  | cons y xs ih =>
    intro i x h
    cases i with
    | zero =>
      simp only [List.set_cons_zero, List.flatMap_cons, splice, Nat.zero_mul, Nat.zero_add, List.take_zero, List.nil_append]
      rw [R.len, ← R.len y, List.drop_left]
    | succ i =>
      simp only [List.set_cons_succ, List.flatMap_cons, splice]
      rw [ih i x (by simpa using h)]
      have e : (i + 1) * R.n = (R.cs y).length + i * R.n := by rw [R.len, Nat.add_mul]; omega
      rw [e, List.take_length_add_append, Nat.add_assoc, List.drop_length_add_append]
      simp [splice]

section
variable {Γ : List (Nat × Ty)} {P : Program} {d : Option Tmp} {ty : TypeId} {pos : String} {af : Array Edge} {g : Option (Nat × Bool)} {x y : Operand} {T : Ty} {t e : TypeId} {α : Type} {R : Rep α} {bytes : Nat} {z : Value}

theorem opj_storeO {β : Type} {R2 : Rep β} {xs : List α} {v : Value} {i off : Nat} {u : α} {u2 : β} (hz : TOk P t R2 bytes z)
    (hp : ∀ F w A ad n c, EnvOk Γ (⟨d, .store t x y, ty, pos, af, g⟩ : Oper).op.operands F w A → v = .slice (some ⟨ad, 0, none⟩) n c → A.eval x = .pointer (some ⟨ad, i * R.n + off, none⟩))
    (hx : Fct Γ y (R2.ty u2)) (hi : i < xs.length) (hoff : off + R2.n ≤ R.n) (hu : R.cs u = splice (R.cs xs[i]) off (R2.cs u2)) :
    OpJ P ⟨d, .store t x y, ty, pos, af, g⟩ Γ [] [own R e xs v] (fun _ => [own R e (xs.set i u) v]) (fun _ => tany) := by
  intro M w A hM _ hE _ _ he
  obtain ⟨ho, hfp⟩ := hE _ (List.mem_singleton.2 rfl)
  have hgiv := given_fp hE
  have hv := hx.use (by simp [Op.operands]) he
  rcases own_cells ho with ⟨_, hn⟩ | ⟨b, cap, cur, hvv, hb, h1, h2, h3, h4⟩
  · rw [hn] at hi; simp at hi
  · have hpv := hp _ w A b _ _ he hvv
    have hin : i * R.n + R.n ≤ xs.length * R.n := by
      have : (i + 1) * R.n ≤ xs.length * R.n := Nat.mul_le_mul_right _ hi
      rw [Nat.add_mul] at this; omega
    have hcap : xs.length * R.n ≤ cap * R.n := Nat.mul_le_mul_right _ h1
    have hrs := run_storeAt (off := i * R.n + off) hz hv hb (by omega)
    have hr : (execOp A.eval (⟨d, .store t x y, ty, pos, af, g⟩ : Oper)).run P w = .ok .skip (w.setRow b (splice cur.toList (i * R.n + off) (A.eval y).cells.toList).toArray) := by
      simp only [execOp, hpv, Sem.run_bind, hrs, Result.andThen_ok, Sem.run_pure]
    simp only [Does, hr]
    have heat : ∀ k, eatFp [own R e xs v] k ↔ k = b := by
      intro k
      rw [eatFp_one, hvv, own_fp]
    refine ⟨undef, setRow_step ((heat b).2 rfl), made_one (fun k hk => ?_) ?_, trivial⟩
    · rw [hvv] at hk
      rw [own_fp.1 hk]
      exact ⟨.inl ((heat b).2 rfl), by simpa using (Array.getElem?_eq_some_iff.1 hb).1⟩
    · obtain ⟨hcv, _, hnn⟩ := cells_of_ty hv
      have hvl : (A.eval y).cells.toList.length = R2.n := by simpa using hnn
      have hl : (xs.set i u).length = xs.length := by simp
      have hvv' : v = .slice (some ⟨b, 0, none⟩) (xs.set i u).length cap := by rw [hl]; exact hvv
      rw [hvv']
      refine own_mk (setRow_heap w b cur _ e _ hb) (by rw [hl]; exact h1) h2 (by simp only [List.size_toArray]; rw [splice_len _ _ _ (by simp; omega)]; simpa using h3) ?_
      rw [hl]
      have e1 : (splice cur.toList (i * R.n + off) (A.eval y).cells.toList).take (xs.length * R.n) = splice (cur.toList.take (xs.length * R.n)) (i * R.n + off) (A.eval y).cells.toList := by
        apply List.ext_getElem?
        intro j
        rw [List.getElem?_take, splice_get _ _ _ _ (by simp; omega), splice_get _ _ _ _ (by simp; omega), List.getElem?_take]
        by_cases hj : j < xs.length * R.n
        · rw [if_pos hj, if_pos hj]
        · rw [if_neg hj, if_neg hj, if_neg (by omega)]
      simp only
      rw [e1]
      have e2 : (xs.set i u).flatMap R.cs = splice (xs.flatMap R.cs) (i * R.n + off) (R2.cs u2) := by
        rw [flatMap_set R xs i u hi, hu]
        have hfl : (xs.flatMap R.cs).length = xs.length * R.n := flatMap_len R xs
        have hul : (R2.cs u2).length = R2.n := R2.len u2
        have hil : (R.cs xs[i]).length = R.n := R.len _
        have hsl : (splice (R.cs xs[i]) off (R2.cs u2)).length = R.n := by rw [splice_len _ _ _ (by omega), hil]
        apply List.ext_getElem?
        intro j
        rw [splice_get _ _ _ _ (by rw [hsl]; omega), splice_get (xs.flatMap R.cs) (R2.cs u2) (i * R.n + off) j (by omega), hsl, hul]
        by_cases hj : i * R.n ≤ j ∧ j < i * R.n + R.n
        · rw [if_pos hj, splice_get _ _ _ _ (by omega), hul]
          by_cases hj2 : off ≤ j - i * R.n ∧ j - i * R.n < off + R2.n
          · rw [if_pos hj2, if_pos (by omega)]
            congr 1; omega
          · rw [if_neg hj2, if_neg (by omega)]
            have : j = i * R.n + (j - i * R.n) := by omega
            rw [this, flatMap_get R xs i _ xs[i] (List.getElem?_eq_getElem hi) (by omega)]
            congr 1; omega
        · rw [if_neg hj, if_neg (by omega)]
      rw [e2]
      refine (h4.splice hcv (by rw [flatMap_len, R2.len]; omega)).keepE ?_ ?_
      · intro k hk
        rw [hvv] at hgiv heat
        refine free_next (by simp) hgiv (fun B hB j hj => ?_) hk
        obtain rfl := List.mem_singleton.1 hB
        rw [own_fp] at hj
        exact .inl ((heat j).2 hj)
      · rintro k ⟨g1, g2⟩
        exact setRow_other w b k _ (fun e => g2 (hgiv k ((heat k).2 e)))

theorem op_storeO {xs ys : List α} {v : Value} {i : Int} {u : α} (hz : TOk P t R bytes z) (hp : Fct Γ x (tv (elemP v (i.toNat * R.n)))) (hx : Fct Γ y (R.ty u)) (h : setAt xs i u = some ys) :
    OpJ P ⟨d, .store t x y, ty, pos, af, g⟩ Γ [] [own R e xs v] (fun _ => [own R e ys v]) (fun _ => tany) := by
  unfold setAt at h
  split at h
  · rename_i hc
    obtain rfl := Option.some.inj h
    have hi : i.toNat < xs.length := by omega
    refine opj_storeO (off := 0) hz (fun F w A ad n c he hv => ?_) hx hi (by omega) ?_
    · rw [hp.val (by simp [Op.operands]) he, hv]; simp [elemP, addr_add]
    · simp [splice, R.len]
  · cases h
/-- A store into a field of an element. -/
theorem op_storeOf {β : Type} {R2 : Rep β} {xs ys : List α} {v : Value} {i : Int} {off : Nat} {u0 u : α} {u2 : β} (hz : TOk P t R2 bytes z) (hp : Fct Γ x (tv (padd (elemP v (i.toNat * R.n)) off))) (hx : Fct Γ y (R2.ty u2)) (h0 : idx xs i = some u0) (h : setAt xs i u = some ys)
    (hoff : off + R2.n ≤ R.n) (hu : R.cs u = splice (R.cs u0) off (R2.cs u2)) :
    OpJ P ⟨d, .store t x y, ty, pos, af, g⟩ Γ [] [own R e xs v] (fun _ => [own R e ys v]) (fun _ => tany) := by
  unfold setAt at h
  split at h
  · rename_i hc
    obtain rfl := Option.some.inj h
    have hi : i.toNat < xs.length := by omega
    have e0 : xs[i.toNat] = u0 := by
      unfold idx at h0
      rw [if_pos hc.1, List.getElem?_eq_getElem hi] at h0
      exact Option.some.inj h0
    refine opj_storeO (off := off) hz (fun F w A ad n c he hv => ?_) hx hi hoff (by rw [e0]; exact hu)
    rw [hp.val (by simp [Op.operands]) he, hv]; simp [elemP, padd, addr_add]
  · cases h
theorem op_fieldO {s : TypeId} {f off m : Nat} {v : Value} {xs : List α} (hf : FieldAt P s f off) (hp : Fct Γ x (tv (elemP v m))) (hne : xs ≠ []) : OpJ P ⟨d, .fieldAddr s x f, ty, pos, af, g⟩ Γ [own R e xs v] [] (fun _ => []) (fun _ => tv (padd (elemP v m) off)) :=
  opj_use fun M w a hU he => by
    have hv := hp.val (by simp [Op.operands]) he
    rcases own_cells (hU _ (List.mem_singleton.2 rfl)) with ⟨_, hn⟩ | ⟨b, cap, cur, hvv, _⟩
    · exact (hne hn).elim
    · subst hvv
      exact ⟨_, by simp only [execOp, hv, elemP, addr_add, Sem.run_bind, run_fieldAt hf, Result.andThen_ok, Sem.run_pure, padd], rfl⟩
/-- A load of an element of an owned slice. -/
theorem op_loadO {xs : List α} {v : Value} {i : Int} {u : α} (hz : TOk P t R bytes z) (hp : Fct Γ x (tv (elemP v (i.toNat * R.n)))) (h : idx xs i = some u) : OpJ P ⟨d, .load t x, ty, pos, af, g⟩ Γ [own R e xs v] [] (fun _ => []) (fun _ => R.ty u) :=
  opj_use fun M w a hU he => by
    have hv := hp.val (by simp [Op.operands]) he
    unfold idx at h
    split at h
    · rcases own_cells (hU _ (List.mem_singleton.2 rfl)) with ⟨_, hn⟩ | ⟨b, cap, cur, hvv, hb, h1, h2, h3, h4⟩
      · rw [hn] at h; simp at h
      · subst hvv
        have hi : i.toNat < xs.length := (List.getElem?_eq_some_iff.1 h).1
        have hrow : Row (xs.flatMap R.cs) (free M w) w b 0 := fun j T hT => by
          have hj : j < (cur.toList.take (xs.length * R.n)).length := by rw [h4.1]; exact (List.getElem?_eq_some_iff.1 hT).1
          refine ⟨(cur.toList.take (xs.length * R.n))[j], ?_, h4.2 j T _ hT (List.getElem?_eq_getElem hj)⟩
          have hj2 : j < cur.size := by simp at hj; omega
          simp [World.cell?, hb, hj2]
        obtain ⟨v', hrun, hty⟩ := run_loadAt hz (hrow.elem h)
        refine ⟨v', ?_, hty⟩
        simp only [execOp, hv, elemP, addr_add, Sem.run_bind, hrun, Result.andThen_ok, Sem.run_pure]
    · cases h
theorem op_indexOi {xs : List α} {v : Value} {e' : TypeId} {i : Int} {k : IntKind} {u : α} (ht : P.underlying t = some (.slice e)) (hz : TOk P e R bytes z) (hx : Fct Γ x (tv v)) (hi : Fct Γ y (tv (.int k i))) (h : idx xs i = some u) :
    OpJ P ⟨d, .indexAddr t x y, ty, pos, af, g⟩ Γ [own R e' xs v] [] (fun _ => []) (fun _ => tv (elemP v (i.toNat * R.n))) := by
  unfold idx at h
  split at h
  · have := (List.getElem?_eq_some_iff.1 h).1
    exact op_indexO ht hz hx hi (by assumption) (by omega)
  · cases h
theorem op_indexOs {xs ys : List α} {v : Value} {e' : TypeId} {i : Int} {k : IntKind} {u : α} (ht : P.underlying t = some (.slice e)) (hz : TOk P e R bytes z) (hx : Fct Γ x (tv v)) (hi : Fct Γ y (tv (.int k i))) (h : setAt xs i u = some ys) :
    OpJ P ⟨d, .indexAddr t x y, ty, pos, af, g⟩ Γ [own R e' xs v] [] (fun _ => []) (fun _ => tv (elemP v (i.toNat * R.n))) := by
  unfold setAt at h
  split at h
  · rename_i hc
    exact op_indexO ht hz hx hi hc.1 hc.2
  · cases h
end

/-! What a written proof uses -/

theorem wp_loopK {P : Program} {a : Act} {w : World} {σ ρ : Type} {c : Code} {Q : Exit → Act → World → Prop} (body : σ → Option (σ ⊕ ρ)) (I : σ → Act → World → Prop) (out : ρ) (s0 : σ) (h : tailrec body s0 = some out) (h0 : I s0 a w)
    (round : ∀ s o a w (K : Act → World → Prop), I s a w → body s = some o → (∀ r, o = .inr r → r = out) → (∀ s' a w, o = .inl s' → I s' a w → K a w) → c.wp P (Exit.then K Q) a w) : (Code.loop c).wp P Q a w :=
  wp_loop_rec body I out s0 h h0 fun s o a w hI hb ho => round s o a w _ hI hb ho (fun s' _ _ h1 h2 => ⟨s', h1, h2⟩)

section
variable {Γ : List (Nat × Ty)} {P : Program} {d : Option Tmp} {ty : TypeId} {pos : String} {af : Array Edge} {g : Option (Nat × Bool)}
theorem op_callF {fid : FuncId} {Ts : List Ty} {xs : List Operand} {ts : Array TypeId} {E : List Atom} {N : Value → List Atom} {T : Value → Ty} (hc : Callable P fid) (hfn : FnOk P fid Ts E N T) (ha : Args Γ [] xs Ts) :
    OpJ P ⟨d, .call { callee := .value (.func fid), args := xs.toArray, argTypes := ts }, ty, pos, af, g⟩ Γ [] E N T :=
  op_call (caps := []) (Tc := []) hc (by simpa using hfn) .fn ha
theorem op_callFU {fid : FuncId} {Ts : List Ty} {xs : List Operand} {ts : Array TypeId} {E : List Atom} {N : Value → List Atom} {T : Value → Ty} (U : List Atom) (hc : Callable P fid) (hfn : FnOk P fid Ts E N T) (ha : Args Γ U xs Ts) (hT : ∀ x, FlatT (T x)) (hN : ∀ x, ∀ A ∈ N x, FlatA A) :
    OpJ P ⟨d, .call { callee := .value (.func fid), args := xs.toArray, argTypes := ts }, ty, pos, af, g⟩ Γ U E N T :=
  op_callU (caps := []) (Tc := []) U hc (by simpa using hfn) (.of .fn) ha hT hN
theorem flatN0 {x : Value} : ∀ A ∈ (fun _ => [] : Value → List Atom) x, FlatA A := fun _ h => (by cases h)
end

theorem FieldAt.mk {P : Program} {s f off : Nat} {fs : Array Field} {fd : Field} {α : Type} {R : Rep α} {b : Nat} {z : Value} (hu : P.underlying s = some (.struct fs)) (hf : fs[f]? = some fd) (ho : fd.offset = off) (hz : TOk P fd.type R b z) (hn : R.n ≠ 0) : FieldAt P s f off :=
  have ⟨i, hi, _, hs, _⟩ := hz.info
  ⟨fs, fd, i, hu, hf, ho, hi, by rw [hs]; exact hn⟩

theorem nz_ne {b : Int} {u : Unit} (h : nz b = some u) : b ≠ 0 := by unfold nz at h; split at h <;> first | assumption | cases h
theorem band_mk {a b : Bool} (h : a = true) (k : b = true) : (a && b) = true := by rw [h, k]; rfl
theorem beqF {c : Bool} (h : c = false) : (c == false) = true := by rw [h]; rfl
theorem beqT {c : Bool} (h : c = true) : (c == true) = true := by rw [h]; rfl
def jn {α β : Type} (k : α) (f : α → β) : β := f k
theorem jn_elim {α β : Type} {k : α} {f : α → Option β} {r : β} (h : jn k f = some r) : ∃ k', k' = k ∧ f k' = some r := ⟨k, rfl, h⟩

end Go.Sim
