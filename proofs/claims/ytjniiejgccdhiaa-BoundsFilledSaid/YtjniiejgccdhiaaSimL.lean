/- The logic's twelfth part: tables made and grown, variables that hold slices of the call's own, closures over them, copies, cuts. No condition. -/
import Derived.Test.YtjniiejgccdhiaaSimK
namespace Go.Sim

@[reducible] def ti (x : Int) : Ty := tv (.int .i64 x)
@[reducible] def tb (x : Bool) : Ty := tv (.bool x)

section
variable {M : Fr} {w0 : World} {n : Nat} {Γ : List (Nat × Ty)} {As : List Atom} {a : Act} {w : World} {α : Type}

def selA (As : List Atom) (is : List Nat) : List Atom := is.filterMap fun i => As[i]?
theorem apart_sel {As : List Atom} (hap : Apart As) {is : List Nat} (hd : distinct is = true) : Apart (selA As is) := by
  unfold Apart selA at *
  rw [List.pairwise_filterMap]
  refine (show is.Pairwise (· ≠ ·) from distinct_ok hd).imp ?_
  intro i j hij A hA B hB k hk hkB
  rw [List.pairwise_iff_getElem] at hap
  obtain ⟨hi, rfl⟩ := List.getElem?_eq_some_iff.1 hA
  obtain ⟨hj, rfl⟩ := List.getElem?_eq_some_iff.1 hB
  rcases Nat.lt_trichotomy i j with h | h | h
  · exact hap i j hi hj h k hk hkB
  · exact hij h
  · exact hap j i hj hi h k hkB hk
/-- Some atoms, in some order. -/
theorem St.selA (h : St M w0 n Γ As a w) (is : List Nat) (hd : distinct is = true) : St M w0 n Γ (selA As is) a w := by
  have hmem : ∀ A, A ∈ Sim.selA As is → A ∈ As := by
    intro A hA
    obtain ⟨i, _, hi⟩ := List.mem_filterMap.1 hA
    exact List.mem_of_getElem? hi
  have hf : ∀ k, fps (Sim.selA As is) k → fps As k := fun k ⟨A, hA, hk⟩ => ⟨A, hmem A hA, hk⟩
  exact ⟨h.size, h.defers, h.grow, h.m0, fun A hA => A.keep (hold_free hf) (fun _ _ => rfl) (fun _ _ => rfl) (h.own A (hmem A hA)), fun A hA => h.fresh A (hmem A hA), apart_sel h.apart hd,
    fun p hp => p.2.keep (hold_free hf) (fun _ _ => rfl) (h.slots p hp)⟩

theorem St.rowsM {m : Int} {xss : List (List α)} (R : Rep α) (e : TypeId) (hm : Sim.mk m ([] : List α) = some xss) (h : St M w0 n Γ As a w) : St M w0 n Γ (rows R e xss (List.replicate m.toNat nilV) :: As) a w := by
  unfold Sim.mk at hm
  split at hm
  · obtain rfl := Option.some.inj hm
    exact h.rows0 R e m.toNat
  · cases hm
/-- Rows of none. -/
theorem St.rowsN (R : Rep α) (e : TypeId) (h : St M w0 n Γ As a w) : St M w0 n Γ (rows R e ([] : List (List α)) [] :: As) a w := h.rows0 R e 0
theorem St.shareO {R : Rep α} {e : TypeId} {xs : List α} {v : Value} {s : Nat} (i : Nat) (h : St M w0 n Γ (Sim.own R e xs v :: As) a w) (hi : Γ[i]? = some (s, tv v)) : St M w0 n ((s, tsl R xs) :: Γ) As a w := h.share i hi
end

section
variable {Γ : List (Nat × Ty)} {P : Program} {d : Option Tmp} {ty : TypeId} {pos : String} {af : Array Edge} {g : Option (Nat × Bool)} {x y : Operand} {T : Ty} {t e e1 e2 : TypeId} {α : Type} {R : Rep α} {bytes : Nat} {z : Value} {xss : List (List α)} {us : List Value} {v : Value}

theorem zokV : ∀ F w, (rVal.ty nilV).ok F w (.slice none 0 0) := fun _ _ => ⟨rfl, rfl⟩
theorem op_makeT {n : Int} {k k' : IntKind} (ht : P.underlying t = some (.slice e)) (hz : TOk P e rVal bytes (.slice none 0 0)) (hb : bytes ≤ 2048) (hx : Fct Γ x (tv (.int k n))) (hy : Fct Γ y (tv (.int k' n))) (h : mk n ([] : List α) = some xss) :
    OpJ P ⟨d, .makeSlice t x y, ty, pos, af, g⟩ Γ [] [] (fun v => [own rVal e (List.replicate n.toNat nilV) v]) (fun v => tv v) := by
  refine op_makeO (R := rVal) ht hz zokV hb hx hy ?_
  unfold mk at h ⊢
  split at h
  · rename_i hc; rw [if_pos hc]
  · cases h
theorem setAt_us {i : Int} {xs : List α} {yss : List (List α)} {u : Value} (h : setAt xss i xs = some yss) (hl : us.length = xss.length) : setAt us i u = some (us.set i.toNat u) := by
  unfold setAt at h ⊢
  split at h
  · rename_i hc; rw [if_pos ⟨hc.1, by omega⟩]
  · cases h
/-- A row's header is replaced by that of a slice that the call owns. -/
theorem op_putT {i : Int} {xs : List α} {yss : List (List α)} {u : Value} (hz : TOk P t rVal bytes z) (hp : Fct Γ x (tv (elemP v (i.toNat * rVal.n)))) (hx : Fct Γ y (tv u)) (h : setAt xss i xs = some yss) :
    OpJ P ⟨d, .store t x y, ty, pos, af, g⟩ Γ [rows R e2 xss us, own R e xs u] [own rVal e1 us v] (fun _ => [own rVal e1 (us.set i.toNat u) v]) (fun _ => tany) :=
  .say (A := rows R e2 xss us) (by simp) (fun _ _ h => rows_len h) fun hl => .say (A := own R e xs u) (by simp) (fun _ _ h => own_one h) fun hu =>
    (op_storeT (us := us) hz hp hx hu (setAt_us h hl)).useMore (fun A hA => by cases hA)
/-- A slice of one header. -/
theorem op_hdr {xs : List α} {u : Value} (ht : P.underlying t = some (.slice e1)) (hz : TOk P e1 rVal bytes z) (hx : Fct Γ x (tv u)) : OpJ P ⟨d, .buildSlice t 1 #[(0, x)], ty, pos, af, g⟩ Γ [own R e xs u] [] (fun _ => []) (fun _ => tsl rVal [u]) :=
  .say (A := own R e xs u) (by simp) (fun _ _ h => own_one h) fun hu => (op_buildSl (R := rVal) (len := 1) (us := [u]) ht hz (.cons (hx.weak fun _ _ _ h => ⟨h, hu⟩) (.nil _)) rfl (by show 1 * 1 ≤ 16777216; omega)).useMore (fun A hA => by cases hA)
theorem op_hdrO {xs : List α} {u : Value} (ht : P.underlying t = some (.slice e1)) (hz : TOk P e1 rVal bytes z) (hx : Fct Γ x (tv u)) : OpJ P ⟨d, .buildSlice t 1 #[(0, x)], ty, pos, af, g⟩ Γ [own R e xs u] [] (fun v => [own rVal e1 [u] v]) (fun v => tv v) :=
  .say (A := own R e xs u) (by simp) (fun _ _ h => own_one h) fun hu => (op_buildSlO (R := rVal) (len := 1) (us := [u]) ht hz (.cons (hx.weak fun _ _ _ h => ⟨h, hu⟩) (.nil _)) rfl (by show 1 * 1 ≤ 16777216; omega) (by omega)).useMore (fun A hA => by cases hA)
theorem op_appendT {ws : List Value} (ht : P.underlying t = some (.slice e)) (hz : TOk P e rVal bytes z) (hb : bytes ≤ 2048) (hx : Fct Γ x (tv v)) (hy : Fct Γ y (tsl rVal ws)) (h : rm (xss.length + ws.length) = some ()) :
    OpJ P ⟨d, .call { callee := .builtin .append, args := #[x, y], argTypes := #[t, t] }, ty, pos, af, g⟩ Γ [rows R e2 xss us] [own rVal e us v] (fun v' => [own rVal e (us ++ ws) v']) (fun v' => tv v') :=
  .say (A := rows R e2 xss us) (by simp) (fun _ _ h => rows_len h) fun hl => (op_append (R := rVal) (xs := us) ht hz hb hx hy (by rw [hl]; exact h)).useMore (fun A hA => by cases hA)

/-! Variables that hold slices of the call's own -/

theorem op_allocV (hz : TOk P t rVal bytes (.slice none 0 0)) : OpJ P ⟨d, .alloc t, ty, pos, af, g⟩ Γ [] [] (fun p => [box (rVal.cs nilV) p]) (fun p => tv p) := op_alloc (R := rVal) (a := nilV) hz zokV
theorem op_loadBV {q u : Value} (hz : TOk P t rVal bytes z) (hp : Fct Γ x (tv q)) : OpJ P ⟨d, .load t x, ty, pos, af, g⟩ Γ [box (rVal.cs u) q] [] (fun _ => []) (fun _ => tv u) :=
  op_weak (op_loadB (R := rVal) (u := u) hz hp rfl) (fun _ _ _ _ h => h.1)
theorem op_storeBV {q u u' : Value} {xs : List α} (hz : TOk P t rVal bytes z) (hp : Fct Γ x (tv q)) (hx : Fct Γ y (tv u')) : OpJ P ⟨d, .store t x y, ty, pos, af, g⟩ Γ [own R e xs u'] [box (rVal.cs u) q] (fun _ => [box (rVal.cs u') q]) (fun _ => tany) :=
  .say (A := own R e xs u') (by simp) (fun _ _ h => own_one h) fun hu => (op_storeB (R := rVal) (a := u') (Ts := rVal.cs u) hz hp (hx.weak fun _ _ _ h => ⟨h, hu⟩) (Nat.le_refl _)).useMore (fun A hA => by cases hA)

/-! Closures -/

theorem one_cloE {f : FuncId} {Tc : List Ty} : One (tcloE f Tc) := fun _ _ _ ⟨caps, h⟩ => by rw [h.1]; rfl
@[reducible] def rCloE (f : FuncId) (Tc : List Ty) : Rep Unit := ⟨fun _ => [tcloE f Tc], 1, false, fun _ => rfl, fun _ => one_cons one_cloE one_nil, fun _ => rfl⟩

/-- What was captured as T is seen by the callee as T', where the caller lends U. -/
def LendT (U : List Atom) (T T' : Ty) : Prop := ∀ (F F' : Blk) (w : World) (v : Value), (∀ k, F k → F' k) → (∀ A ∈ U, A.ok F w ∧ ∀ k, A.fp k → F' k) → T.ok F w v → T'.ok F' w v
inductive Lends (U : List Atom) : List Ty → List Ty → Prop where
  | nil : Lends U [] []
  | cons {T T' : Ty} {Tc Tc' : List Ty} (h : LendT U T T') (hs : Lends U Tc Tc') : Lends U (T :: Tc) (T' :: Tc')
theorem lend_keep {U : List Atom} {T : Ty} : LendT U T T := fun _ _ _ _ hF _ h => T.keep hF (fun _ _ => rfl) h
theorem lend_box {U : List Atom} {Ts : List Ty} {q : Value} (hU : box Ts q ∈ U) : LendT U (tv q) (tptr Ts) := fun F F' w v hF hA h => by
  have hv : v = q := h
  subst hv
  exact box_keep_row (hA _ hU).1 hF (hA _ hU).2
theorem row1 {T : Ty} {F : Blk} {w : World} {b off : Nat} {u : Value} (hu : w.cell? ⟨b, off, none⟩ = some u) (h : T.ok F w u) : Row [T] F w b off := fun j T' hj => by
  match j, hj with
  | 0, hj => simp at hj; subst hj; exact ⟨u, hu, h⟩
theorem lend_hdr {U : List Atom} {q u : Value} {T : Ty} (h1 : box (rVal.cs u) q ∈ U) (h2 : ∀ (F F' : Blk) (w : World), (∀ k, F k → F' k) → (∀ A ∈ U, A.ok F w ∧ ∀ k, A.fp k → F' k) → T.ok F' w u) : LendT U (tv q) (tptr [T]) := fun F F' w v hF hA h => by
  have hv : v = q := h
  subst hv
  obtain ⟨b, hq, hr⟩ := box_row (hA _ h1).1
  obtain ⟨u', hu', hT⟩ := hr 0 (tvs u) rfl
  obtain ⟨rfl, _⟩ := hT
  exact ⟨b, 0, hq, (hA _ h1).2 b hq, row1 hu' (h2 F F' w hF hA)⟩
theorem lend_boxO {U : List Atom} {q u : Value} {xs : List α} (h1 : box (rVal.cs u) q ∈ U) (h2 : own R e xs u ∈ U) : LendT U (tv q) (tptr [tsl R xs]) :=
  lend_hdr h1 fun F F' w hF hA => ArgOk.own (x := .const u) (Γ := []) (U := U) (R := R) (e := e) (xs := xs) (v := u) .k h2 F F' w ⟨#[], []⟩ hF hA (fun p hp => by simp at hp)
theorem lend_boxT {U : List Atom} {q u : Value} (h1 : box (rVal.cs u) q ∈ U) (h2 : own rVal e1 us u ∈ U) (h3 : rows R e2 xss us ∈ U) : LendT U (tv q) (tptr [tsl (rSl R) xss]) :=
  lend_hdr h1 fun F F' w hF hA => ArgOk.table (x := .const u) (Γ := []) (U := U) (R := R) (e1 := e1) (e2 := e2) (xss := xss) (us := us) (v := u) .k h2 h3 F F' w ⟨#[], []⟩ hF hA (fun p hp => by simp at hp)
theorem Lends.cells {U : List Atom} {Tc Tc' : List Ty} (h : Lends U Tc Tc') {F F' : Blk} {w : World} {vs : List Value} (hF : ∀ k, F k → F' k) (hA : ∀ A ∈ U, A.ok F w ∧ ∀ k, A.fp k → F' k) (hc : Cells Tc F w vs) : Cells Tc' F' w vs := by
  induction h generalizing vs with
  | nil => exact (by have := hc.inv0; subst this; exact .nil)
  | cons h hs ih =>
    obtain ⟨u, us, rfl, h1, h2⟩ := hc.inv
    exact .cons (h F F' w u hF hA h1) (ih h2)

/-- A call of a closure. -/
theorem op_callC {f : Operand} {fid : FuncId} {Tc Ts : List Ty} {xs : List Operand} {ts : Array TypeId} {E : List Atom} {N : Value → List Atom} {T : Value → Ty} (hc : Callable P fid) (hfn : FnOk P fid (Ts ++ Tc) E N T)
    (hf : Fct Γ f (tcloE fid Tc)) (ha : Args Γ [] xs Ts) : OpJ P ⟨d, .call { callee := .value f, args := xs.toArray, argTypes := ts }, ty, pos, af, g⟩ Γ [] E N T := by
  intro M w a hM _ hE hap _ he
  obtain ⟨caps, hfv, hcap⟩ := hf.use (by simp [Op.operands, Call.operands]) he
  have hargs := ha.cells (F := free M w) (F' := free M w) (a := a) (fun _ h => h) (fun A hA => by simp at hA) (fun p hp hx => he p hp (by simp [Op.operands, Call.operands, hx]))
  have hcells := hargs.append hcap
  simp only [Does, run_call hc hfv]
  refine Calls.mono (hfn M w _ hM hE hap hcells) ?_
  rintro e w' ⟨x, v, he, h⟩
  exact ⟨v, he, x, h⟩
/-- A call of a closure over variables that the caller owns and lends. -/
theorem op_callL {f : Operand} {fid : FuncId} {Tc Tc' Ts : List Ty} {xs : List Operand} {ts : Array TypeId} {E : List Atom} {N : Value → List Atom} {T : Value → Ty} (U : List Atom) (hc : Callable P fid) (hfn : FnOk P fid (Ts ++ Tc') E N T)
    (hf : Fct Γ f (tcloE fid Tc)) (hl : Lends U Tc Tc') (ha : Args Γ U xs Ts) (hT : ∀ x, FlatT (T x)) (hN : ∀ x, ∀ A ∈ N x, FlatA A) : OpJ P ⟨d, .call { callee := .value f, args := xs.toArray, argTypes := ts }, ty, pos, af, g⟩ Γ U E N T := by
  intro M w a hM hU hE hap hUE he
  have hM' : ∀ k, (M k ∧ ¬ ∃ A ∈ U, A.fp k) → k < w.heap.size := fun k h => hM k h.1
  have hsub : ∀ k, free M w k → free (fun k => M k ∧ ¬ ∃ A ∈ U, A.fp k) w k := fun k h => ⟨h.1, fun hm => h.2 hm.1⟩
  have hUF : ∀ A ∈ U, A.ok (free M w) w ∧ ∀ k, A.fp k → free (fun k => M k ∧ ¬ ∃ A ∈ U, A.fp k) w k :=
    fun A hA => ⟨(hU A hA).1, fun k hk => ⟨hM k ((hU A hA).2 k hk), fun hm => hm.2 ⟨A, hA, hk⟩⟩⟩
  have hE' : Given (fun k => M k ∧ ¬ ∃ A ∈ U, A.fp k) E w := fun B hB =>
    ⟨B.keep hsub (fun _ _ => rfl) (fun _ _ => rfl) (hE B hB).1, fun k hk => ⟨(hE B hB).2 k hk, fun ⟨A, hA, hkA⟩ => hUE A hA B hB k hkA hk⟩⟩
  obtain ⟨caps, hfv, hcap⟩ := hf.use (by simp [Op.operands, Call.operands]) he
  have hargs := ha.cells (a := a) hsub hUF (fun p hp hx => he p hp (by simp [Op.operands, Call.operands, hx]))
  have hcells := hargs.append (hl.cells hsub hUF hcap)
  simp only [Does, run_call hc hfv]
  refine Calls.mono (hfn _ w _ hM' hE' hap hcells) ?_
  rintro e w' ⟨x, v, he, hg, hN', hT'⟩
  exact ⟨v, he, x, hg, ⟨hN'.apart, hN'.place, fun A hA => hN x A hA _ _ _ (hN'.ok A hA)⟩, hT x _ _ _ _ hT'⟩

/-! Copies -/

def cpy (xs ys : List α) : List α := ys.take xs.length ++ xs.drop ys.length
theorem cpy_len (xs ys : List α) : (cpy xs ys).length = xs.length := by simp [cpy]; omega
theorem own_cellsL {xs : List α} {v : Value} {F : Blk} {w : World} (h : (own R e xs v).ok F w) : ∃ us, Cells (xs.flatMap R.cs) F w us ∧ ((v = .slice none 0 0 ∧ xs = []) ∨ ∃ b cap, v = .slice (some ⟨b, 0, none⟩) xs.length cap ∧ ∀ j u, us[j]? = some u → w.cell? ⟨b, j, none⟩ = some u) := by
  rcases own_cells h with ⟨hv, hx⟩ | ⟨b, cap, cur, hv, hb, h1, h2, h3, h4⟩
  · subst hx; exact ⟨[], .nil, .inl ⟨hv, rfl⟩⟩
  · refine ⟨_, h4, .inr ⟨b, cap, hv, fun j u hu => ?_⟩⟩
    rw [List.getElem?_take] at hu
    split at hu
    · simp only [World.cell?, hb]; simpa using hu
    · cases hu

theorem run_copy {xs ys : List α} {v : Value} {F F' : Blk} {w : World} {ad : Option Addr} {c : Nat} {vs : List Value} {ta : Array TypeId} (ht : P.underlying t = some (.slice e)) (hta : ta[0]? = some t) (hz : TOk P e R bytes z) (ho : (own R e xs v).ok F w) (hF : ∀ k, F k → ¬ (own R e xs v).fp k) (hFF : ∀ k, F k → F' k)
    (hvs : Cells (ys.flatMap R.cs) F w vs) (hr : ys = [] ∨ ∃ b off, ad = some ⟨b, off, none⟩ ∧ ∀ j u, vs[j]? = some u → w.cell? ⟨b, off + j, none⟩ = some u) :
    ∃ w', (Builtin.copy_ ta ty #[v, .slice ad ys.length c]).run P w = .ok (.int .i64 (Nat.min ys.length xs.length)) w' ∧ Step (own R e xs v).fp w w' ∧ (own R e (cpy xs ys) v).ok F' w' ∧ w'.heap.size = w.heap.size := by
  obtain ⟨ti, hti, _, hs, _⟩ := hz.info
  have hvl : vs.length = ys.length * R.n := by rw [hvs.1, flatMap_len]
  rcases own_cells ho with ⟨hv, hx⟩ | ⟨b, cap, cur, hv, hb, h1, h2, h3, h4⟩
  · subst hv; subst hx
    refine ⟨w, ?_, Step.refl _ _, ?_, rfl⟩
    · cases ad <;> simp [Builtin.copy_, hta, run_underlying ht, Builtin.lenOf, sizeOf, typeInfo, hti, Builtin.firstCells, goInt, loadCells, loadCellsFrom]
    · simp only [cpy, List.length_nil, List.take_zero, List.drop_nil, List.append_nil]
      exact own_nil_ok
  · have hxl : xs.length * R.n ≤ cur.size := by rw [h3]; exact Nat.mul_le_mul_right _ h1
    obtain ⟨m, hm⟩ : ∃ m, m = Nat.min ys.length xs.length := ⟨_, rfl⟩
    have hm1 : m ≤ ys.length := by rw [hm]; exact Nat.min_le_left _ _
    have hm2 : m ≤ xs.length := by rw [hm]; exact Nat.min_le_right _ _
    have hmy : m * R.n ≤ ys.length * R.n := Nat.mul_le_mul_right _ hm1
    have hmx : m * R.n ≤ xs.length * R.n := Nat.mul_le_mul_right _ hm2
    have hnl : (vs.take (m * R.n)).length = m * R.n := by simp; omega
    have hone : ∀ u ∈ vs.take (m * R.n), u.oneCell' = true := by
      intro u hu
      obtain ⟨j, hj⟩ := List.mem_iff_getElem?.1 (List.mem_of_mem_take hu)
      have hjl : j < (ys.flatMap R.cs).length := by rw [← hvs.1]; exact (List.getElem?_eq_some_iff.1 hj).1
      have hT := hvs.2 j _ u (List.getElem?_eq_getElem hjl) hj
      obtain ⟨q, _, hq⟩ := List.mem_flatMap.1 (List.getElem_mem hjl)
      exact R.one q _ hq F w u hT
    have hfc : (Builtin.firstCells R.n m (.slice ad ys.length c)).run P w = .ok (vs.take (m * R.n)).toArray w := by
      rcases hr with rfl | ⟨b', off, rfl, hcell⟩
      · have : vs = [] := List.eq_nil_of_length_eq_zero (by rw [hvl]; simp)
        subst this
        have hm0 : m = 0 := by simpa using hm1
        rw [hm0]
        cases ad <;> simp [Builtin.firstCells, loadCells, loadCellsFrom]
      · have := run_loadCells_list (P := P) w ⟨b', off, none⟩ (vs.take (m * R.n)) (fun j u hj => by
          rw [List.getElem?_take] at hj
          split at hj
          · rw [addr_add]; exact hcell j u hj
          · cases hj)
        rw [hnl] at this
        simpa [Builtin.firstCells] using this
    have hst := run_storeCells_at P b 0 e (vs.take (m * R.n)) 0 cur w hb (by rw [hnl]; omega) hone
    simp only [Nat.add_zero, Nat.zero_add, List.take_zero, List.nil_append, hnl] at hst
    refine ⟨w.setRow b (vs.take (m * R.n) ++ cur.toList.drop (m * R.n)).toArray, ?_, setRow_step (by rw [hv]; exact own_fp.2 rfl), ?_, by simp⟩
    · subst hv
      have hlen : (Builtin.lenOf (.slice ad ys.length c)).run P w = .ok ys.length w := by simp [Builtin.lenOf]
      simp only [Builtin.copy_, hta, run_underlying ht, List.getElem?_toArray, List.getElem?_cons_zero, List.getElem?_cons_succ, Sem.run_bind, hlen, Result.andThen_ok, sizeOf, typeInfo, run_program, hti, Sem.run_pure, ← hm, hs, hfc, hst, goInt]
    · have hcl : (cpy xs ys).length = xs.length := cpy_len xs ys
      have hv' : v = .slice (some ⟨b, 0, none⟩) (cpy xs ys).length cap := by rw [hcl]; exact hv
      rw [hv']
      refine own_mk (setRow_heap w b cur _ e _ hb) (by rw [hcl]; exact h1) h2 (by simp only [List.size_toArray, List.length_append, hnl, List.length_drop, Array.length_toList]; omega) ?_
      rw [hcl]
      have e1 : ((vs.take (m * R.n) ++ cur.toList.drop (m * R.n)).toArray.toList).take (xs.length * R.n) = vs.take (m * R.n) ++ (cur.toList.take (xs.length * R.n)).drop (m * R.n) := by
        simp only []
        rw [List.take_append, hnl, List.drop_take]
        congr 1
        rw [List.take_of_length_le (by rw [hnl]; exact hmx)]
      rw [e1]
      have e2 : (cpy xs ys).flatMap R.cs = (ys.flatMap R.cs).take (m * R.n) ++ (xs.flatMap R.cs).drop (m * R.n) := by
        unfold cpy
        have e3 : ys.take xs.length = ys.take m := by
          rw [hm]
          change _ = ys.take (min ys.length xs.length)
          rcases Nat.le_total ys.length xs.length with h | h
          · rw [Nat.min_eq_left h, List.take_of_length_le h, List.take_length]
          · rw [Nat.min_eq_right h]
        have e4 : xs.drop ys.length = xs.drop m := by
          rw [hm]
          change _ = xs.drop (min ys.length xs.length)
          rcases Nat.le_total ys.length xs.length with h | h
          · rw [Nat.min_eq_left h]
          · rw [Nat.min_eq_right h, List.drop_of_length_le h, List.drop_length]
        rw [e3, e4, List.flatMap_append]
        have f1 := Row.flatMap_sub R ys 0 m (by omega)
        simp only [List.drop_zero, Nat.zero_mul] at f1
        have f2 := Row.flatMap_sub R xs m (xs.length - m) (by omega)
        rw [List.take_of_length_le (l := xs.drop m) (by simp)] at f2
        have f3 : ((xs.flatMap R.cs).drop (m * R.n)).take ((xs.length - m) * R.n) = (xs.flatMap R.cs).drop (m * R.n) := List.take_of_length_le (by rw [List.length_drop, flatMap_len, Nat.sub_mul]; exact Nat.le_refl _)
        rw [f1, f2, f3]
      rw [e2]
      have c1 : Cells ((ys.flatMap R.cs).take (m * R.n)) F w (vs.take (m * R.n)) := ⟨by simp [hvs.1], fun j T u hT hu => by
        rw [List.getElem?_take] at hT hu
        split at hT
        · rw [if_pos (by assumption)] at hu; exact hvs.2 j T u hT hu
        · cases hT⟩
      have c2 : Cells ((xs.flatMap R.cs).drop (m * R.n)) F w ((cur.toList.take (xs.length * R.n)).drop (m * R.n)) := ⟨by rw [List.length_drop, List.length_drop, h4.1], fun j T u hT hu => by
        rw [List.getElem?_drop] at hT hu
        exact h4.2 _ T u hT hu⟩
      exact (c1.append c2).keepE hFF (fun k hk => setRow_other w b k _ (fun e => hF k hk (by rw [hv, e]; exact own_fp.2 rfl)))

theorem opj_copy {xs ys : List α} {v : Value} {U : List Atom} {ta : Array TypeId} (ht : P.underlying t = some (.slice e)) (hta : ta[0]? = some t) (hz : TOk P e R bytes z) (hx : Fct Γ x (tv v))
    (hsrc : ∀ (M : Blk) (w : World) (A : Act), Given M U w → EnvOk Γ (⟨d, .call { callee := .builtin .copy, args := #[x, y], argTypes := ta }, ty, pos, af, g⟩ : Oper).op.operands (free M w) w A →
      ∃ ad c vs, A.eval y = .slice ad ys.length c ∧ Cells (ys.flatMap R.cs) (free M w) w vs ∧ (ys = [] ∨ ∃ b off, ad = some ⟨b, off, none⟩ ∧ ∀ j u, vs[j]? = some u → w.cell? ⟨b, off + j, none⟩ = some u)) :
    OpJ P ⟨d, .call { callee := .builtin .copy, args := #[x, y], argTypes := ta }, ty, pos, af, g⟩ Γ U [own R e xs v] (fun _ => [own R e (cpy xs ys) v]) (fun _ => tv (.int .i64 (Nat.min ys.length xs.length))) := by
  intro M w A hM hU hE _ _ he
  obtain ⟨ho, hfp⟩ := hE _ (List.mem_singleton.2 rfl)
  have hgiv := given_fp hE
  have h1 := hx.val (by simp [Op.operands, Call.operands]) he
  obtain ⟨ad, c, vs, h2, hvs, hr⟩ := hsrc M w A hU he
  obtain ⟨w', hrun, hstep, hok, hsz⟩ := run_copy (ty := ty) (c := c) (F' := free M w) ht hta hz ho (fun k hk hf => hk.2 (hfp k hf)) (fun k hk => hk) hvs hr
  have hexec : (execOp A.eval (⟨d, .call { callee := .builtin .copy, args := #[x, y], argTypes := ta }, ty, pos, af, g⟩ : Oper)).run P w = .ok (.value (.int .i64 (Nat.min ys.length xs.length))) w' := by
    simp only [execOp, resolve, invoke, builtin, Sem.run_bind, Sem.run_pure, Result.andThen_ok, List.map_toArray, List.map_cons, List.map_nil, h1, h2, hrun]
  simp only [Does, hexec]
  refine ⟨undef, hstep.mono (fun k hk => eatFp_one.2 hk), made_one (fun k hk => ⟨.inl (eatFp_one.2 hk), by rw [hsz]; exact hM k (hfp k hk)⟩) ?_, rfl⟩
  refine Atom.keep _ (fun k hk => ?_) (fun _ _ => rfl) (fun _ _ => rfl) hok
  refine free_next (by omega) hgiv (fun B hB j hj => ?_) hk
  obtain rfl := List.mem_singleton.1 hB
  exact .inl (eatFp_one.2 hj)
/-- A copy out of a slice that is only read. -/
theorem op_copy {xs ys : List α} {v : Value} {ta : Array TypeId} (ht : P.underlying t = some (.slice e)) (hta : ta[0]? = some t) (hz : TOk P e R bytes z) (hx : Fct Γ x (tv v)) (hy : Fct Γ y (tsl R ys)) :
    OpJ P ⟨d, .call { callee := .builtin .copy, args := #[x, y], argTypes := ta }, ty, pos, af, g⟩ Γ [] [own R e xs v] (fun _ => [own R e (cpy xs ys) v]) (fun _ => tv (.int .i64 (Nat.min ys.length xs.length))) :=
  opj_copy ht hta hz hx fun M w A _ he => by
    obtain ⟨ad, cap, h2, _, hr⟩ := hy.use (by simp [Op.operands, Call.operands]) he
    by_cases hn : ys = []
    · subst hn
      exact ⟨_, _, [], h2, .nil, .inl rfl⟩
    · obtain ⟨b, off, ha, _, hrow⟩ := hr hn
      obtain ⟨vs, hc, hcell⟩ := row_list _ _ hrow
      exact ⟨_, _, vs, h2, hc, .inr ⟨b, off, ha, hcell⟩⟩
/-- A copy out of another slice of the call's own. -/
theorem op_copyO {xs ys : List α} {v v2 : Value} {e3 : TypeId} {ta : Array TypeId} (ht : P.underlying t = some (.slice e)) (hta : ta[0]? = some t) (hz : TOk P e R bytes z) (hx : Fct Γ x (tv v)) (hy : Fct Γ y (tv v2)) :
    OpJ P ⟨d, .call { callee := .builtin .copy, args := #[x, y], argTypes := ta }, ty, pos, af, g⟩ Γ [own R e3 ys v2] [own R e xs v] (fun _ => [own R e (cpy xs ys) v]) (fun _ => tv (.int .i64 (Nat.min ys.length xs.length))) :=
  opj_copy ht hta hz hx fun M w A hU he => by
    have h2 := hy.val (by simp [Op.operands, Call.operands]) he
    obtain ⟨vs, hc, hr⟩ := own_cellsL (hU _ (List.mem_singleton.2 rfl)).1
    rcases hr with ⟨hv, rfl⟩ | ⟨b, cap, hv, hcell⟩
    · exact ⟨none, 0, vs, h2.trans hv, hc, .inl rfl⟩
    · exact ⟨_, cap, vs, h2.trans hv, hc, .inr ⟨b, 0, rfl, fun j u hu => by rw [Nat.zero_add]; exact hcell j u hu⟩⟩
theorem op_copyR {xs ys : List α} {v : Value} {i : Int} {ta : Array TypeId} (ht : P.underlying t = some (.slice e)) (hta : ta[0]? = some t) (hz : TOk P e R bytes z) (hx : Fct Γ x (tv v)) (hy : Fct Γ y (tv (usAt us i))) (h : idx xss i = some ys) :
    OpJ P ⟨d, .call { callee := .builtin .copy, args := #[x, y], argTypes := ta }, ty, pos, af, g⟩ Γ [rows R e2 xss us] [own R e xs v] (fun _ => [own R e (cpy xs ys) v]) (fun _ => tv (.int .i64 (Nat.min ys.length xs.length))) :=
  .usePart (rows_part h) rows_sub (op_copyO ht hta hz hx hy)
end

end Go.Sim
