/- The logic's fifth part: the judgements on the operations that read, make and write memory. No condition. -/
import Derived.Test.YthdfmpocknmleaaGreatDoorSimD
namespace Go.Sim

/-! What the Lean functions use -/

def idx {α : Type} (xs : List α) (i : Int) : Option α := if 0 ≤ i then xs[i.toNat]? else none
def rm (n : Nat) : Option Unit := if n ≤ 68719476736 then some () else none
def sub {α : Type} (xs : List α) (lo hi : Int) : Option (List α) := if 0 ≤ lo ∧ lo ≤ hi ∧ hi ≤ xs.length then some ((xs.drop lo.toNat).take (hi.toNat - lo.toNat)) else none
def mk {α : Type} (n : Int) (z : α) : Option (List α) := if 0 ≤ n ∧ n ≤ 68719476736 then some (List.replicate n.toNat z) else none
def setAt {α : Type} (xs : List α) (i : Int) (x : α) : Option (List α) := if 0 ≤ i ∧ i < xs.length then some (xs.set i.toNat x) else none
def imax (a b : Int) : Int := if b > a then b else a
def imin (a b : Int) : Int := if b < a then b else a
def nz (b : Int) : Option Unit := if b ≠ 0 then some () else none

/-! Lists of cells -/

theorem addr_add (b off n : Nat) : (⟨b, off, none⟩ : Addr).add n = ⟨b, off + n, none⟩ := by
  unfold Addr.add; split <;> simp_all

theorem flatMap_len {α : Type} (R : Rep α) (xs : List α) : (xs.flatMap R.cs).length = xs.length * R.n := by
  induction xs with
  | nil => simp
  | cons x xs ih => simp [List.flatMap_cons, ih, R.len, Nat.add_mul, Nat.add_comm]

theorem flatMap_get {α : Type} (R : Rep α) : ∀ (xs : List α) (i j : Nat) (x : α), xs[i]? = some x → j < R.n → (xs.flatMap R.cs)[i * R.n + j]? = (R.cs x)[j]? := by
  intro xs
  induction xs with
  | nil => intro i j x h; simp at h
  | cons y xs ih =>
    intro i j x h hj
    rw [List.flatMap_cons]
    cases i with
    | zero =>
      simp at h; subst h
      rw [Nat.zero_mul, Nat.zero_add, List.getElem?_append_left (by rw [R.len]; exact hj)]
    | succ i =>
      have h' : xs[i]? = some x := by simpa using h
      rw [List.getElem?_append_right (by rw [R.len, Nat.add_mul]; omega), R.len]
      have e : (i + 1) * R.n + j - R.n = i * R.n + j := by rw [Nat.add_mul]; omega
      rw [e]
      exact ih i j x h' hj

theorem row_list {F : Blk} {w : World} {b : Nat} : ∀ (Ts : List Ty) (off : Nat), Row Ts F w b off → ∃ us, Cells Ts F w us ∧ ∀ j u, us[j]? = some u → w.cell? ⟨b, off + j, none⟩ = some u := by
  intro Ts
  induction Ts with
  | nil => intro off _; exact ⟨[], ⟨rfl, fun j T u h => by simp at h⟩, fun j u h => by simp at h⟩
  | cons T Ts ih =>
    intro off h
    obtain ⟨u, hu, hT⟩ := h 0 T rfl
    obtain ⟨us, hc, hr⟩ := ih (off + 1) (fun j T' hj => by
      obtain ⟨u, hu, ht⟩ := h (j + 1) T' (by simpa using hj)
      exact ⟨u, by rw [← hu]; congr 2; omega, ht⟩)
    refine ⟨u :: us, ⟨by simp [hc.1], ?_⟩, ?_⟩
    · intro j T' u' hT' hu'
      cases j with
      | zero => simp at hT' hu'; subst hT'; subst hu'; exact hT
      | succ j => exact hc.2 j T' u' (by simpa using hT') (by simpa using hu')
    · intro j u' hu'
      cases j with
      | zero => simp at hu'; subst hu'; simpa using hu
      | succ j => rw [← hr j u' (by simpa using hu')]; congr 2; omega

theorem Row.part {Ts : List Ty} {F : Blk} {w : World} {b off : Nat} (h : Row Ts F w b off) (m : Nat) : Row (Ts.drop m) F w b (off + m) := by
  intro j T hj
  rw [List.getElem?_drop] at hj
  obtain ⟨u, hu, ht⟩ := h (m + j) T hj
  exact ⟨u, by rw [← hu]; congr 2; omega, ht⟩
theorem Row.head {Ts Us : List Ty} {F : Blk} {w : World} {b off : Nat} (h : Row Ts F w b off) (hU : Us = Ts.take Us.length) : Row Us F w b off := by
  intro j T hj
  refine h j T ?_
  rw [hU, List.getElem?_take] at hj
  split at hj
  · exact hj
  · cases hj
theorem Row.elem {α : Type} {R : Rep α} {xs : List α} {F : Blk} {w : World} {b off i : Nat} {x : α} (h : Row (xs.flatMap R.cs) F w b off) (hx : xs[i]? = some x) : Row (R.cs x) F w b (off + i * R.n) := by
  intro j T hj
  have hjn : j < R.n := by rw [← R.len x]; exact (List.getElem?_eq_some_iff.1 hj).1
  obtain ⟨u, hu, ht⟩ := h (i * R.n + j) T (by rw [flatMap_get R xs i j x hx hjn]; exact hj)
  exact ⟨u, by rw [← hu]; congr 2; omega, ht⟩

/-- A value of a type, by its cells. -/
theorem ty_of_cells {α : Type} {R : Rep α} {x : α} {F : Blk} {w : World} {us : List Value} (h : Cells (R.cs x) F w us) : (R.agg = true → (R.ty x).ok F w (.agg us.toArray)) ∧ (R.agg = false → ∃ u, us = [u] ∧ (R.ty x).ok F w u) := by
  constructor
  · intro ha
    unfold Rep.ty; rw [ha]
    exact ⟨us, rfl, h⟩
  · intro ha
    have hn := R.sz ha
    have hl := R.len x
    rw [hn] at hl
    have hu := h.1
    rw [hl] at hu
    match us, hu with
    | [u], _ =>
      refine ⟨u, rfl, ?_⟩
      unfold Rep.ty; rw [ha]
      match hc : R.cs x, hl with
      | [T], _ =>
        rw [hc] at h
        exact h.2 0 T u rfl rfl

theorem cells_of_ty {α : Type} {R : Rep α} {x : α} {F : Blk} {w : World} {v : Value} (h : (R.ty x).ok F w v) : Cells (R.cs x) F w v.cells.toList ∧ (∀ u ∈ v.cells.toList, u.oneCell' = true) ∧ v.cells.size = R.n := by
  have key : Cells (R.cs x) F w v.cells.toList := by
    unfold Rep.ty at h
    cases ha : R.agg with
    | true =>
      rw [ha] at h
      obtain ⟨us, hv, hc⟩ := h
      subst hv
      simpa [Value.cells] using hc
    | false =>
      rw [ha] at h
      have hl := R.len x
      rw [R.sz ha] at hl
      match hc : R.cs x, hl with
      | [T], _ =>
        rw [hc] at h
        have h' : T.ok F w v := h
        have h1 : v.oneCell' = true := R.one x T (by rw [hc]; simp) F w v h'
        have e : v.cells.toList = [v] := by cases v <;> simp_all [Value.cells, Value.oneCell']
        rw [e]
        refine ⟨rfl, fun j T' u hT hu => ?_⟩
        cases j with
        | zero => simp at hT hu; subst hT; subst hu; exact h'
        | succ j => simp at hT
  refine ⟨key, fun u hu => ?_, ?_⟩
  · obtain ⟨j, hj⟩ := List.mem_iff_getElem?.1 hu
    have hlt : j < (R.cs x).length := by rw [← key.1]; exact (List.getElem?_eq_some_iff.1 hj).1
    exact R.one x _ (List.getElem_mem hlt) F w u (key.2 j _ u (List.getElem?_eq_getElem hlt) hj)
  · have := key.1
    rw [R.len] at this
    simpa using this

section
variable {Γ : List (Nat × Ty)} {P : Program} {d : Option Tmp} {ty : TypeId} {pos : String} {af : Array Edge} {g : Option (Nat × Bool)} {x y : Operand} {T : Ty} {t e : TypeId} {α : Type} {R : Rep α} {bytes : Nat} {z : Value}

theorem op_len {xs : List α} (ht : P.underlying t = some (.slice e)) (hx : Fct Γ x (tsl R xs)) : OpJ P ⟨d, .call { callee := .builtin .len, args := #[x], argTypes := #[t] }, ty, pos, af, g⟩ Γ [] [] (fun _ => []) (fun _ => tv (.int .i64 xs.length)) :=
  opj_pure fun F w a he => by
    obtain ⟨ad, cap, hv, _⟩ := hx.use (by simp [Op.operands, Call.operands]) he
    exact ⟨_, by simp [execOp, resolve, invoke, builtin, Builtin.len_, run_underlying ht, hv, goInt], rfl⟩
theorem own_len {xs : List α} {v : Value} {F : Blk} {w : World} (h : (own R e xs v).ok F w) : ∃ ad cap, v = .slice ad xs.length cap := by
  obtain ⟨us, ho, _⟩ := h
  rcases ho.2 with ⟨hv, hn⟩ | ⟨gg, cap, cur, hv, _⟩
  · exact ⟨none, 0, by rw [hv, hn]⟩
  · exact ⟨_, cap, hv⟩
theorem op_lenO {xs : List α} {v : Value} {e' : TypeId} (ht : P.underlying t = some (.slice e)) (hx : Fct Γ x (tv v)) : OpJ P ⟨d, .call { callee := .builtin .len, args := #[x], argTypes := #[t] }, ty, pos, af, g⟩ Γ [own R e' xs v] [] (fun _ => []) (fun _ => tv (.int .i64 xs.length)) :=
  opj_use fun M w a hU he => by
    obtain ⟨ad, cap, hv⟩ := own_len (hU _ (List.mem_singleton.2 rfl))
    have := hx.val (by simp [Op.operands, Call.operands]) he
    exact ⟨_, by simp [execOp, resolve, invoke, builtin, Builtin.len_, run_underlying ht, this, hv, goInt], rfl⟩
theorem op_lenS {s : ByteArray} (ht : P.underlying t = some .string) (hx : Fct Γ x (tv (.string s))) : OpJ P ⟨d, .call { callee := .builtin .len, args := #[x], argTypes := #[t] }, ty, pos, af, g⟩ Γ [] [] (fun _ => []) (fun _ => tv (.int .i64 s.size)) :=
  opj_pure fun F w a he => by
    have := hx.val (by simp [Op.operands, Call.operands]) he
    exact ⟨_, by simp [execOp, resolve, invoke, builtin, Builtin.len_, run_underlying ht, this, goInt], rfl⟩

theorem run_index {i : Int} {k : IntKind} {ad : Option Addr} {len cap b off : Nat} (ht : P.underlying t = some (.slice e)) (hz : TOk P e R bytes z) (w : World) (ha : ad = some ⟨b, off, none⟩) (h0 : 0 ≤ i) (h1 : i < len) :
    (Instr.indexAt t (.slice ad len cap) (.int k i)).run P w = .ok (.pointer (some ⟨b, off + i.toNat * R.n, none⟩)) w := by
  obtain ⟨ti, hti, _, hs, _⟩ := hz.info
  simp [Instr.indexAt, run_underlying ht, asIntOf, ha, h0, h1, sizeOf, typeInfo, hti, hs, addr_add]

theorem op_index {xs : List α} {i : Int} {k : IntKind} {u : α} (ht : P.underlying t = some (.slice e)) (hz : TOk P e R bytes z) (hx : Fct Γ x (tsl R xs)) (hi : Fct Γ y (tv (.int k i))) (h : idx xs i = some u) :
    OpJ P ⟨d, .indexAddr t x y, ty, pos, af, g⟩ Γ [] [] (fun _ => []) (fun _ => tptr (R.cs u)) :=
  opj_pure fun F w a he => by
    obtain ⟨ad, cap, hv, _, hr⟩ := hx.use (by simp [Op.operands]) he
    have h2 := hi.val (by simp [Op.operands]) he
    unfold idx at h
    split at h
    · rename_i h0
      have hlt : i.toNat < xs.length := (List.getElem?_eq_some_iff.1 h).1
      obtain ⟨b, off, ha, hb, hrow⟩ := hr (fun hn => by rw [hn] at hlt; simp at hlt)
      refine ⟨_, ?_, b, off + i.toNat * R.n, rfl, hb, hrow.elem h⟩
      simp only [execOp, hv, h2, Sem.run_bind, run_index ht hz w ha h0 (show i < (xs.length : Int) by omega), Result.andThen_ok, Sem.run_pure]
    · cases h

/-- The address of a part of an owned slice. -/
def elemP (v : Value) (m : Nat) : Value := match v with | .slice (some a) _ _ => .pointer (some (a.add m)) | _ => .pointer none
def padd (v : Value) (m : Nat) : Value := match v with | .pointer (some a) => .pointer (some (a.add m)) | _ => .pointer none

theorem op_indexO {xs : List α} {v : Value} {e' : TypeId} {i : Int} {k : IntKind} (ht : P.underlying t = some (.slice e)) (hz : TOk P e R bytes z) (hx : Fct Γ x (tv v)) (hi : Fct Γ y (tv (.int k i))) (h0 : 0 ≤ i) (h1 : i < xs.length) :
    OpJ P ⟨d, .indexAddr t x y, ty, pos, af, g⟩ Γ [own R e' xs v] [] (fun _ => []) (fun _ => tv (elemP v (i.toNat * R.n))) :=
  opj_use fun M w a hU he => by
    have hv := hx.val (by simp [Op.operands]) he
    have h2 := hi.val (by simp [Op.operands]) he
    obtain ⟨us, ho, _⟩ := hU _ (List.mem_singleton.2 rfl)
    rcases ho.2 with ⟨_, hn⟩ | ⟨gg, cap, cur, hvv, _⟩
    · omega
    · refine ⟨_, ?_, rfl⟩
      subst hvv
      simp only [execOp, hv, h2, Sem.run_bind, run_index ht hz w rfl h0 h1, Result.andThen_ok, Sem.run_pure, elemP, addr_add]

theorem run_loadAt {b off : Nat} {F : Blk} {w : World} {u : α} (hz : TOk P t R bytes z) (hr : Row (R.cs u) F w b off) : ∃ v, (Instr.loadAt t (.pointer (some ⟨b, off, none⟩))).run P w = .ok v w ∧ (R.ty u).ok F w v := by
  obtain ⟨D, hD, hag⟩ := hz.d
  obtain ⟨ti, hti, _, hs, _⟩ := hz.info
  obtain ⟨us, hc, hcell⟩ := row_list _ _ hr
  have hlen : us.length = R.n := by rw [hc.1, R.len]
  obtain ⟨hA, hB⟩ := ty_of_cells hc
  cases ha : R.agg with
  | true =>
    refine ⟨.agg us.toArray, ?_, hA ha⟩
    rw [ha] at hag
    have hl := run_loadCells_list (P := P) w ⟨b, off, none⟩ us (fun j v hj => by rw [addr_add]; exact hcell j v hj)
    rw [hlen] at hl
    cases D <;> first
      | (simp [isAggD] at hag; done)
      | simp [Instr.loadAt, Instr.sureAddr, loadVar, isAgg, run_underlying hD, sizeOf, typeInfo, hti, hs, hl]
  | false =>
    obtain ⟨u1, hus, hty⟩ := hB ha
    refine ⟨u1, ?_, hty⟩
    rw [ha] at hag
    have hl : w.cell? ⟨b, off, none⟩ = some u1 := by simpa using hcell 0 u1 (by simp [hus])
    cases D <;> first
      | (simp [isAggD] at hag; done)
      | simp [Instr.loadAt, Instr.sureAddr, loadVar, isAgg, run_underlying hD, hl]

theorem op_load {u : α} (hz : TOk P t R bytes z) (hp : Fct Γ x (tptr (R.cs u))) : OpJ P ⟨d, .load t x, ty, pos, af, g⟩ Γ [] [] (fun _ => []) (fun _ => R.ty u) :=
  opj_pure fun F w a he => by
    obtain ⟨b, off, hv, _, hr⟩ := hp.use (by simp [Op.operands]) he
    obtain ⟨v, hrun, hty⟩ := run_loadAt hz hr
    exact ⟨v, by simp only [execOp, hv, Sem.run_bind, hrun, Result.andThen_ok, Sem.run_pure], hty⟩
/-- A load of a part. -/
theorem op_loadT {u : α} {Ts : List Ty} (hz : TOk P t R bytes z) (hp : Fct Γ x (tptr Ts)) (h : R.cs u = Ts.take (R.cs u).length) : OpJ P ⟨d, .load t x, ty, pos, af, g⟩ Γ [] [] (fun _ => []) (fun _ => R.ty u) :=
  op_load hz (hp.weak fun _ _ _ ⟨b, off, hv, hb, hr⟩ => ⟨b, off, hv, hb, hr.head h⟩)

/-- A field's place in a struct. -/
def FieldAt (P : Program) (s : TypeId) (f off : Nat) : Prop := ∃ fs fd i, P.underlying s = some (.struct fs) ∧ fs[f]? = some fd ∧ fd.offset = off ∧ P.info? fd.type = some i ∧ i.size ≠ 0
theorem run_fieldAt {s : TypeId} {f off b o : Nat} (hf : FieldAt P s f off) (w : World) : (Instr.fieldAt s (.pointer (some ⟨b, o, none⟩)) f).run P w = .ok (.pointer (some ⟨b, o + off, none⟩)) w := by
  obtain ⟨fs, fd, i, h1, h2, h3, h4, h5⟩ := hf
  simp [Instr.fieldAt, run_underlying h1, h2, Instr.sureAddr, fieldPlace, sizeOf, typeInfo, h4, h5, h3, addr_add]
theorem op_field {s : TypeId} {f off : Nat} {Ts : List Ty} (hf : FieldAt P s f off) (hp : Fct Γ x (tptr Ts)) : OpJ P ⟨d, .fieldAddr s x f, ty, pos, af, g⟩ Γ [] [] (fun _ => []) (fun _ => tptr (Ts.drop off)) :=
  opj_pure fun F w a he => by
    obtain ⟨b, o, hv, hb, hr⟩ := hp.use (by simp [Op.operands]) he
    exact ⟨_, by simp only [execOp, hv, Sem.run_bind, run_fieldAt hf, Result.andThen_ok, Sem.run_pure], b, o + off, rfl, hb, hr.part off⟩
theorem op_fieldB {s : TypeId} {f off : Nat} {Ts : List Ty} {q : Value} (hf : FieldAt P s f off) (hp : Fct Γ x (tv q)) : OpJ P ⟨d, .fieldAddr s x f, ty, pos, af, g⟩ Γ [box Ts q] [] (fun _ => []) (fun _ => tv (padd q off)) :=
  opj_use fun M w a hU he => by
    have hv := hp.val (by simp [Op.operands]) he
    obtain ⟨b, cur, e, hq, _⟩ := hU _ (List.mem_singleton.2 rfl)
    subst hq
    exact ⟨_, by simp only [execOp, hv, Sem.run_bind, run_fieldAt hf, Result.andThen_ok, Sem.run_pure, padd, addr_add], rfl⟩

theorem box_row {Ts : List Ty} {q : Value} {F : Blk} {w : World} (h : (box Ts q).ok F w) : ∃ b, q = .pointer (some ⟨b, 0, none⟩) ∧ Row Ts F w b 0 := by
  obtain ⟨b, cur, e, hq, hb, hc, _⟩ := h
  refine ⟨b, hq, fun j T hj => ?_⟩
  have hlt : j < cur.toList.length := by rw [hc.1]; exact (List.getElem?_eq_some_iff.1 hj).1
  refine ⟨cur.toList[j], ?_, hc.2 j T _ hj (List.getElem?_eq_getElem hlt)⟩
  have : j < cur.size := by simpa using hlt
  simp [World.cell?, hb, this]

theorem op_loadB {u : α} {Ts : List Ty} {q : Value} (hz : TOk P t R bytes z) (hp : Fct Γ x (tv q)) (h : R.cs u = Ts.take (R.cs u).length) : OpJ P ⟨d, .load t x, ty, pos, af, g⟩ Γ [box Ts q] [] (fun _ => []) (fun _ => R.ty u) :=
  opj_use fun M w a hU he => by
    have hv := hp.val (by simp [Op.operands]) he
    obtain ⟨b, hq, hr⟩ := box_row (hU _ (List.mem_singleton.2 rfl))
    subst hq
    obtain ⟨v, hrun, hty⟩ := run_loadAt hz (hr.head h)
    exact ⟨v, by simp only [execOp, hv, Sem.run_bind, hrun, Result.andThen_ok, Sem.run_pure], hty⟩
theorem op_loadBf {u : α} {Ts : List Ty} {q : Value} {off : Nat} (hz : TOk P t R bytes z) (hp : Fct Γ x (tv (padd q off))) (h : R.cs u = (Ts.drop off).take (R.cs u).length) : OpJ P ⟨d, .load t x, ty, pos, af, g⟩ Γ [box Ts q] [] (fun _ => []) (fun _ => R.ty u) :=
  opj_use fun M w a hU he => by
    have hv := hp.val (by simp [Op.operands]) he
    obtain ⟨b, hq, hr⟩ := box_row (hU _ (List.mem_singleton.2 rfl))
    subst hq
    obtain ⟨v, hrun, hty⟩ := run_loadAt hz ((hr.part off).head h)
    exact ⟨v, by simp only [execOp, hv, padd, addr_add, Sem.run_bind, hrun, Result.andThen_ok, Sem.run_pure], hty⟩

theorem box_new {w : World} {us : List Value} {Ts : List Ty} {F : Blk} {e : TypeId} (hc : Cells Ts F w us) (h1 : ∀ u ∈ us, u.oneCell' = true) (hF : ∀ k, F k → k < w.heap.size) {F' : Blk} (hFF : ∀ k, F k → F' k) :
    (box Ts (.pointer (some ⟨w.heap.size, 0, none⟩))).ok F' (w.alloc (.cells us.toArray e)) := by
  refine ⟨w.heap.size, us.toArray, e, rfl, heap_alloc_new w _, ?_, by simpa using h1⟩
  simpa using hc.keep hFF (fun k hk => Go.RowKit.Below.heap_alloc w _ k (hF k hk))

theorem box_made {w : World} {us : List Value} {Ts : List Ty} {M : Blk} {e : TypeId} (hc : Cells Ts (free M w) w us) (h1 : ∀ u ∈ us, u.oneCell' = true) :
    Made M [] [box Ts (.pointer (some ⟨w.heap.size, 0, none⟩))] w (w.alloc (.cells us.toArray e)) := by
  refine made_one (fun k hk => ?_) (box_new hc h1 (fun k hk => hk.1) fun k hk => ?_)
  · cases hk
    exact ⟨.inr (Nat.le_refl _), by simp⟩
  · refine free_next (by simp) (fun j h => (by rw [eatFp_nil] at h; exact h.elim)) (fun A hA j hj => ?_) hk
    obtain rfl := List.mem_singleton.1 hA
    cases hj
    exact .inr (Nat.le_refl _)
theorem op_box {u : α} (hx : Fct Γ x (R.ty u)) : OpJ P ⟨d, .box t x, ty, pos, af, g⟩ Γ [] [] (fun p => [box (R.cs u) p]) (fun p => tv p) := by
  intro M w a hM _ _ _ _ he
  have hty := hx.use (by simp [Op.operands]) he
  obtain ⟨hc, h1, _⟩ := cells_of_ty hty
  have hr : (execOp a.eval (⟨d, .box t x, ty, pos, af, g⟩ : Oper)).run P w = .ok (.value (.pointer (some ⟨w.heap.size, 0, none⟩))) (w.alloc (.cells (a.eval x).cells t)) := by
    simp [execOp, Instr.box, newVar, newRow]
  simp only [Does, hr]
  refine ⟨.pointer (some ⟨w.heap.size, 0, none⟩), (Step.alloc w _).mono (fun _ h => h.elim), ?_, rfl⟩
  have := box_made (e := t) hc h1
  simpa using this
/-- A variable that is only read from now on. -/
theorem op_boxR {u : α} (hx : Fct Γ x (R.ty u)) : OpJ P ⟨d, .box t x, ty, pos, af, g⟩ Γ [] [] (fun _ => []) (fun _ => tptr (R.cs u)) :=
  opj_new fun F w a hF he => by
    have hty := hx.use (by simp [Op.operands]) he
    obtain ⟨hc, _, _⟩ := cells_of_ty hty
    refine ⟨.pointer (some ⟨w.heap.size, 0, none⟩), w.alloc (.cells (a.eval x).cells t), by simp [execOp, Instr.box, newVar, newRow], Step.alloc w _, fun F' h1 h2 => ?_⟩
    refine ⟨w.heap.size, 0, rfl, h2 _ (Nat.le_refl _) (by simp), fun j T hj => ?_⟩
    have hlt : j < (a.eval x).cells.toList.length := by rw [hc.1]; exact (List.getElem?_eq_some_iff.1 hj).1
    have hlt' : j < (a.eval x).cells.size := by simpa using hlt
    refine ⟨(a.eval x).cells[j], ?_, ?_⟩
    · rw [Nat.zero_add, World.cell?_alloc_new]; exact Array.getElem?_eq_getElem hlt'
    · exact T.keep h1 (fun k hk => Go.RowKit.Below.heap_alloc w _ k (hF k hk)) (hc.2 j T _ hj (by simp [hlt']))
end

end Go.Sim
