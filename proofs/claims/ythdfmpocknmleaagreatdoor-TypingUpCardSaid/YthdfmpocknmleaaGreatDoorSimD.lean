/- The logic's fourth part: how Go's data lie in memory, and the judgements on the single operations. No condition. -/
import Derived.Test.YthdfmpocknmleaaGreatDoorSimC
namespace Go.Sim

theorem eval_const (a : Act) (v : Value) : a.eval (.const v) = v := rfl
/-! Types -/

def Cells (Ts : List Ty) (F : Blk) (w : World) (us : List Value) : Prop := us.length = Ts.length ∧ ∀ (j : Nat) (T : Ty) (u : Value), Ts[j]? = some T → us[j]? = some u → T.ok F w u
theorem Cells.keep {Ts : List Ty} {F F' : Blk} {w w' : World} {us : List Value} (hF : ∀ k, F k → F' k) (hh : ∀ k, F k → w'.heap[k]? = w.heap[k]?) (h : Cells Ts F w us) : Cells Ts F' w' us :=
  ⟨h.1, fun j T u hT hu => T.keep hF hh (h.2 j T u hT hu)⟩
def Row (Ts : List Ty) (F : Blk) (w : World) (b off : Nat) : Prop := ∀ (j : Nat) (T : Ty), Ts[j]? = some T → ∃ u, w.cell? ⟨b, off + j, none⟩ = some u ∧ T.ok F w u
theorem Row.keep {Ts : List Ty} {F F' : Blk} {w w' : World} {b off : Nat} (hb : F b) (hF : ∀ k, F k → F' k) (hh : ∀ k, F k → w'.heap[k]? = w.heap[k]?) (h : Row Ts F w b off) : Row Ts F' w' b off :=
  fun j T hT => let ⟨u, hu, ht⟩ := h j T hT; ⟨u, (World.cell?_of_block (a := ⟨b, off + j, none⟩) (hh b hb)).trans hu, T.keep hF hh ht⟩

def tand (T U : Ty) : Ty := ⟨fun F w v => T.ok F w v ∧ U.ok F w v, fun hF hh h => ⟨T.keep hF hh h.1, U.keep hF hh h.2⟩⟩
def tagg (Ts : List Ty) : Ty := ⟨fun F w v => ∃ us, v = .agg us.toArray ∧ Cells Ts F w us, by intro F F' w w' v hF hh ⟨us, hv, h⟩; exact ⟨us, hv, Cells.keep hF hh h⟩⟩
def ttup (Ts : List Ty) : Ty := ⟨fun F w v => ∃ us, v = .tuple us.toArray ∧ Cells Ts F w us, by intro F F' w w' v hF hh ⟨us, hv, h⟩; exact ⟨us, hv, Cells.keep hF hh h⟩⟩
def tptr (Ts : List Ty) : Ty := ⟨fun F w v => ∃ b off, v = .pointer (some ⟨b, off, none⟩) ∧ F b ∧ Row Ts F w b off, fun hF hh ⟨b, off, hv, hb, h⟩ => ⟨b, off, hv, hF b hb, h.keep hb hF hh⟩⟩

/-- How a datum lies in memory: the types of its cells. -/
structure Rep (α : Type) where
  cs : α → List Ty
  n : Nat
  agg : Bool
  len : ∀ x, (cs x).length = n
  one : ∀ x T, T ∈ cs x → ∀ F w v, T.ok F w v → v.oneCell' = true
  sz : agg = false → n = 1

@[reducible] def Rep.ty {α : Type} (R : Rep α) (x : α) : Ty := match R.agg with | true => tagg (R.cs x) | false => (R.cs x).headD tany

def tsl {α : Type} (R : Rep α) (xs : List α) : Ty :=
  ⟨fun F w v => ∃ ad cap, v = .slice ad xs.length cap ∧ xs.length ≤ cap ∧ (xs ≠ [] → ∃ b off, ad = some ⟨b, off, none⟩ ∧ F b ∧ Row (xs.flatMap R.cs) F w b off),
    fun hF hh ⟨ad, cap, hv, hl, h⟩ => ⟨ad, cap, hv, hl, fun hne => let ⟨b, off, ha, hb, hr⟩ := h hne; ⟨b, off, ha, hF b hb, hr.keep hb hF hh⟩⟩⟩

@[reducible] def rInt (k : IntKind) : Rep Int := ⟨fun x => [tv (.int k x)], 1, false, fun _ => rfl, fun x T h F w v hv => by simp at h; subst h; have : v = _ := hv; subst this; rfl, fun _ => rfl⟩
@[reducible] def rBool : Rep Bool := ⟨fun x => [tv (.bool x)], 1, false, fun _ => rfl, fun x T h F w v hv => by simp at h; subst h; have : v = _ := hv; subst this; rfl, fun _ => rfl⟩
@[reducible] def rSl {α : Type} (R : Rep α) : Rep (List α) := ⟨fun x => [tsl R x], 1, false, fun _ => rfl, fun x T h F w v hv => by simp at h; subst h; obtain ⟨ad, cap, e, _⟩ := hv; subst e; rfl, fun _ => rfl⟩
abbrev rI : Rep Int := rInt .i64

/-- A slice that the call owns. -/
def own {α : Type} (R : Rep α) (e : TypeId) (xs : List α) (v : Value) : Atom :=
  ⟨fun k => v.ownBlock = some k, fun F w => ∃ us, w.ownsRow 0 e R.n v xs.length us ∧ Cells (xs.flatMap R.cs) F w us,
    fun hF hh hf ⟨us, ho, hc⟩ => ⟨us, ⟨ho.1, by
      rcases ho.2 with h | ⟨g, cap, cur, hv, hb, hg, r⟩
      · exact .inl h
      · exact .inr ⟨g, cap, cur, hv, hb, by rw [hf g (by rw [hv]; rfl)]; exact hg, r⟩⟩, hc.keep hF hh⟩⟩
/-- A variable that the call owns: the cells behind a pointer. -/
def box (Ts : List Ty) (p : Value) : Atom :=
  ⟨fun k => p = .pointer (some ⟨k, 0, none⟩), fun F w => ∃ b cur e, p = .pointer (some ⟨b, 0, none⟩) ∧ w.heap[b]? = some (.cells cur e (0, 0)) ∧ Cells Ts F w cur.toList ∧ ∀ u ∈ cur.toList, u.oneCell' = true,
    fun hF hh hf ⟨b, cur, e, hp, hb, hc, h1⟩ => ⟨b, cur, e, hp, by rw [hf b hp]; exact hb, hc.keep hF hh, h1⟩⟩

def isAggD : TypeDesc → Bool | .struct _ | .array _ _ => true | _ => false
structure TOk (P : Program) (t : TypeId) {α : Type} (R : Rep α) (bytes : Nat) (z : Value) : Prop where
  d : ∃ d, P.underlying t = some d ∧ isAggD d = R.agg
  i : (P.info? t).map (fun i => (i.zero, i.size, i.bytes)) = some (some z, R.n, bytes)
  zc : z.cells.size = R.n

theorem TOk.info {P : Program} {t : TypeId} {α : Type} {R : Rep α} {b : Nat} {z : Value} (h : TOk P t R b z) : ∃ i, P.info? t = some i ∧ i.zero = some z ∧ i.size = R.n ∧ i.bytes = b := by
  have hi := h.i
  cases hx : P.info? t with
  | none => simp [hx] at hi
  | some i =>
    simp only [hx, Option.map_some, Option.some.injEq, Prod.mk.injEq] at hi
    exact ⟨i, rfl, hi⟩

/-! Facts on operands -/

def Fct (Γ : List (Nat × Ty)) (x : Operand) (T : Ty) : Prop := ∀ F w a, (∀ p ∈ Γ, Operand.tmp p.1 = x → p.2.ok F w (get a p.1)) → T.ok F w (a.eval x)

section
variable {Γ : List (Nat × Ty)} {P : Program}

theorem Fct.t {s : Nat} {T : Ty} (i : Nat) (h : Γ[i]? = some (s, T)) : Fct Γ (.tmp s) T := fun _ _ _ h0 => h0 (s, T) (List.mem_of_getElem? h) rfl
theorem Fct.k {v : Value} : Fct Γ (.const v) (tv v) := fun _ _ _ _ => rfl
theorem Fct.f {f : FuncId} : Fct Γ (.func f) (tv (.func (.func f) #[] #[])) := fun _ _ _ _ => rfl
theorem Fct.g {g : Nat} : Fct Γ (.global g) (tv (.pointer (some ⟨g, 0, none⟩))) := fun _ _ _ _ => rfl
theorem Fct.weak {x : Operand} {T U : Ty} (h : Fct Γ x T) (hw : ∀ F w v, T.ok F w v → U.ok F w v) : Fct Γ x U := fun F w a h0 => hw F w _ (h F w a h0)
theorem Fct.cond {x : Operand} {T : Ty} {c : Bool} (h : Fct Γ x (tcond c T)) (hc : c = true) : Fct Γ x T := fun F w a h0 => (h F w a h0).1 hc
theorem Fct.left {x : Operand} {T U : Ty} (h : Fct Γ x (tand T U)) : Fct Γ x T := h.weak fun _ _ _ h => h.1
theorem Fct.right {x : Operand} {T U : Ty} (h : Fct Γ x (tand T U)) : Fct Γ x U := h.weak fun _ _ _ h => h.2
theorem Fct.both {x : Operand} {T U : Ty} (h : Fct Γ x T) (k : Fct Γ x U) : Fct Γ x (tand T U) := fun F w a h0 => ⟨h F w a h0, k F w a h0⟩
theorem Fct.nilsl {α : Type} {R : Rep α} : Fct Γ (.const (.slice none 0 0)) (tsl R ([] : List α)) := fun _ _ _ _ => ⟨none, 0, rfl, Nat.le_refl _, fun h => (h rfl).elim⟩

theorem Fct.use {x : Operand} {T : Ty} {xs : Array Operand} {F : Blk} {w : World} {a : Act} (h : Fct Γ x T) (hx : x ∈ xs) (he : EnvOk Γ xs F w a) : T.ok F w (a.eval x) :=
  h F w a fun p hp hpx => he p hp (hpx ▸ hx)
theorem Fct.val {x : Operand} {v : Value} {xs : Array Operand} {F : Blk} {w : World} {a : Act} (h : Fct Γ x (tv v)) (hx : x ∈ xs) (he : EnvOk Γ xs F w a) : a.eval x = v := h.use hx he

theorem Grd.b {dg : Nat} {want b : Bool} (i : Nat) (h : Γ[i]? = some (dg, tv (.bool b))) : Grd Γ dg want (b == want) := by
  intro F w a h0
  have : get a dg = .bool b := h0 _ (List.mem_of_getElem? h) rfl
  rw [this]
theorem Grd.c {dg : Nat} {want b c0 : Bool} (i : Nat) (h : Γ[i]? = some (dg, tcond c0 (tv (.bool b)))) : Grd Γ dg want (c0 && (b == want)) := by
  intro F w a h0
  have hh : (tcond c0 (tv (.bool b))).ok F w (get a dg) := h0 _ (List.mem_of_getElem? h) rfl
  cases c0 with
  | true =>
    have : get a dg = .bool b := hh.1 rfl
    rw [this]; simp
  | false =>
    have : get a dg = undef := hh.2 rfl
    rw [this]; simp [undef]

theorem next_nil (M : Blk) : next M [] [] = M := by funext k; simp [next, eatFp]
theorem eatFp_nil : eatFp [] = fun _ => False := by funext k; simp [eatFp]
theorem eatFp_one {A : Atom} {k : Nat} : eatFp [A] k ↔ A.fp k := by simp [eatFp]
theorem made_nil {M : Blk} {E : List Atom} {w w' : World} : Made M E [] w w' := ⟨List.Pairwise.nil, fun _ h => (by cases h), fun _ h => (by cases h)⟩
theorem made_one {M : Blk} {E : List Atom} {A : Atom} {w w' : World} (h1 : ∀ k, A.fp k → (eatFp E k ∨ w.heap.size ≤ k) ∧ k < w'.heap.size) (h2 : A.ok (free (next M E [A]) w') w') : Made M E [A] w w' :=
  ⟨List.pairwise_singleton _ _, fun B hB => by obtain rfl := List.mem_singleton.1 hB; exact h1, fun B hB => by obtain rfl := List.mem_singleton.1 hB; exact h2⟩
/-- What was free stays free behind an operation, apart from what is made new. -/
theorem free_next {M : Blk} {E N : List Atom} {w w' : World} {k : Nat} (hs : w.heap.size ≤ w'.heap.size) (hE : ∀ j, eatFp E j → M j) (hN : ∀ A ∈ N, ∀ j, A.fp j → eatFp E j ∨ w.heap.size ≤ j) (h : free M w k) : free (next M E N) w' k := by
  refine ⟨Nat.lt_of_lt_of_le h.1 hs, ?_⟩
  rintro (⟨hm, _⟩ | ⟨A, hA, hk⟩)
  · exact h.2 hm
  · rcases hN A hA k hk with he | he
    · exact h.2 (hE k he)
    · have := h.1; omega
theorem given_fp {M : Blk} {E : List Atom} {w : World} (h : Given M E w) : ∀ k, eatFp E k → M k := fun k ⟨A, hA, hk⟩ => (h A hA).2 k hk

theorem opj_pure {o : Oper} {T : Ty} (h : ∀ F w a, EnvOk Γ o.op.operands F w a → ∃ v, (execOp a.eval o).run P w = .ok (.value v) w ∧ T.ok F w v) : OpJ P o Γ [] [] (fun _ => []) (fun _ => T) := by
  intro M w a _ _ _ _ _ he
  obtain ⟨v, hr, ht⟩ := h _ w a he
  simp only [Does, hr]
  refine ⟨undef, Step.refl _ _, made_nil, ?_⟩
  rw [next_nil]; exact ht
theorem opj_use {o : Oper} {U : List Atom} {T : Ty} (h : ∀ M w a, (∀ A ∈ U, A.ok (free M w) w) → EnvOk Γ o.op.operands (free M w) w a → ∃ v, (execOp a.eval o).run P w = .ok (.value v) w ∧ T.ok (free M w) w v) : OpJ P o Γ U [] (fun _ => []) (fun _ => T) := by
  intro M w a _ hU _ _ _ he
  obtain ⟨v, hr, ht⟩ := h M w a (fun A hA => (hU A hA).1) he
  simp only [Does, hr]
  refine ⟨undef, Step.refl _ _, made_nil, ?_⟩
  rw [next_nil]; exact ht
/-- An operation that makes new blocks only, and owns none of them. -/
theorem opj_new {o : Oper} {T : Ty} (h : ∀ F w a, (∀ k, F k → k < w.heap.size) → EnvOk Γ o.op.operands F w a → ∃ v w', (execOp a.eval o).run P w = .ok (.value v) w' ∧ Grow w w' ∧ ∀ F', (∀ k, F k → F' k) → (∀ k, w.heap.size ≤ k → k < w'.heap.size → F' k) → T.ok F' w' v) : OpJ P o Γ [] [] (fun _ => []) (fun _ => T) := by
  intro M w a hM _ _ _ _ he
  obtain ⟨v, w', hr, hg, ht⟩ := h _ w a (fun k hk => hk.1) he
  simp only [Does, hr]
  refine ⟨undef, hg.mono (fun _ h => h.elim), made_nil, ?_⟩
  rw [next_nil]
  refine ht _ (fun k hk => ⟨Nat.lt_of_lt_of_le hk.1 hg.size, hk.2⟩) (fun k h1 h2 => ⟨h2, fun hm => ?_⟩)
  have := hM k hm
  omega

variable {d : Option Tmp} {ty : TypeId} {pos : String} {af : Array Edge} {g : Option (Nat × Bool)} {x y : Operand} {T : Ty}

theorem op_move (h : Fct Γ x T) : OpJ P ⟨d, .move x, ty, pos, af, g⟩ Γ [] [] (fun _ => []) (fun _ => T) :=
  opj_pure fun F w a he => ⟨a.eval x, by simp [execOp], h.use (by simp [Op.operands]) he⟩
theorem op_assign (h : Fct Γ x T) : OpJ P ⟨d, .assign x, ty, pos, af, g⟩ Γ [] [] (fun _ => []) (fun _ => T) :=
  opj_pure fun F w a he => ⟨a.eval x, by simp [execOp], h.use (by simp [Op.operands]) he⟩

theorem opj_bin {op : BinOp} {t t2 : TypeId} {u v r : Value} (hx : Fct Γ x (tv u)) (hy : Fct Γ y (tv v)) (h : ∀ w, ((do eqGuard op t x y u v; binOp op t u v : Sem Value)).run P w = .ok r w) :
    OpJ P ⟨d, .binOp op t x y t2, ty, pos, af, g⟩ Γ [] [] (fun _ => []) (fun _ => tv r) :=
  opj_pure fun F w a he => ⟨r, by
    have h1 := hx.val (by simp [Op.operands]) he
    have h2 := hy.val (by simp [Op.operands]) he
    simp only [execOp, h1, h2]
    rw [Sem.run_bind, h w]; rfl, rfl⟩

variable {t t2 : TypeId} {k : IntKind} {a b : Int}
theorem op_add (hx : Fct Γ x (tv (.int k a))) (hy : Fct Γ y (tv (.int k b))) : OpJ P ⟨d, .binOp .add t x y t2, ty, pos, af, g⟩ Γ [] [] (fun _ => []) (fun _ => tv (.int k (k.wrap (a + b)))) :=
  opj_bin hx hy fun w => by simp [eqGuard, binOp, Op.intArith]
theorem op_sub (hx : Fct Γ x (tv (.int k a))) (hy : Fct Γ y (tv (.int k b))) : OpJ P ⟨d, .binOp .sub t x y t2, ty, pos, af, g⟩ Γ [] [] (fun _ => []) (fun _ => tv (.int k (k.wrap (a - b)))) :=
  opj_bin hx hy fun w => by simp [eqGuard, binOp, Op.intArith]
theorem op_quo (hx : Fct Γ x (tv (.int k a))) (hy : Fct Γ y (tv (.int k b))) (hb : b ≠ 0) : OpJ P ⟨d, .binOp .quo t x y t2, ty, pos, af, g⟩ Γ [] [] (fun _ => []) (fun _ => tv (.int k (k.wrap (a.tdiv b)))) :=
  opj_bin hx hy fun w => by simp [eqGuard, binOp, Op.intDiv, hb]
theorem op_rem (hx : Fct Γ x (tv (.int k a))) (hy : Fct Γ y (tv (.int k b))) (hb : b ≠ 0) : OpJ P ⟨d, .binOp .rem t x y t2, ty, pos, af, g⟩ Γ [] [] (fun _ => []) (fun _ => tv (.int k (a.tmod b))) :=
  opj_bin hx hy fun w => by simp [eqGuard, binOp, Op.intDiv, hb]
theorem op_lss (hx : Fct Γ x (tv (.int k a))) (hy : Fct Γ y (tv (.int k b))) : OpJ P ⟨d, .binOp .lss t x y t2, ty, pos, af, g⟩ Γ [] [] (fun _ => []) (fun _ => tv (.bool (decide (a < b)))) :=
  opj_bin hx hy fun w => by simp [eqGuard, binOp, Op.intCmp]
theorem op_leq (hx : Fct Γ x (tv (.int k a))) (hy : Fct Γ y (tv (.int k b))) : OpJ P ⟨d, .binOp .leq t x y t2, ty, pos, af, g⟩ Γ [] [] (fun _ => []) (fun _ => tv (.bool (decide (a ≤ b)))) :=
  opj_bin hx hy fun w => by simp [eqGuard, binOp, Op.intCmp]
theorem op_gtr (hx : Fct Γ x (tv (.int k a))) (hy : Fct Γ y (tv (.int k b))) : OpJ P ⟨d, .binOp .gtr t x y t2, ty, pos, af, g⟩ Γ [] [] (fun _ => []) (fun _ => tv (.bool (decide (a > b)))) :=
  opj_bin hx hy fun w => by simp [eqGuard, binOp, Op.intCmp]
theorem op_geq (hx : Fct Γ x (tv (.int k a))) (hy : Fct Γ y (tv (.int k b))) : OpJ P ⟨d, .binOp .geq t x y t2, ty, pos, af, g⟩ Γ [] [] (fun _ => []) (fun _ => tv (.bool (decide (a ≥ b)))) :=
  opj_bin hx hy fun w => by simp [eqGuard, binOp, Op.intCmp]
theorem op_eql (hx : Fct Γ x (tv (.int k a))) (hy : Fct Γ y (tv (.int k b))) : OpJ P ⟨d, .binOp .eql t x y t2, ty, pos, af, g⟩ Γ [] [] (fun _ => []) (fun _ => tv (.bool (a == b))) :=
  opj_bin hx hy fun w => by simp [eqGuard, binOp, Op.intCmp]
theorem op_neq (hx : Fct Γ x (tv (.int k a))) (hy : Fct Γ y (tv (.int k b))) : OpJ P ⟨d, .binOp .neq t x y t2, ty, pos, af, g⟩ Γ [] [] (fun _ => []) (fun _ => tv (.bool (a != b))) :=
  opj_bin hx hy fun w => by simp [eqGuard, binOp, Op.intCmp]

theorem op_not {c : Bool} (hx : Fct Γ x (tv (.bool c))) : OpJ P ⟨d, .unOp .not t x, ty, pos, af, g⟩ Γ [] [] (fun _ => []) (fun _ => tv (.bool !c)) :=
  opj_pure fun F w a he => ⟨_, by simp [execOp, hx.val (by simp [Op.operands]) he, Op.unary], rfl⟩
theorem op_neg (hx : Fct Γ x (tv (.int k a))) : OpJ P ⟨d, .unOp .neg t x, ty, pos, af, g⟩ Γ [] [] (fun _ => []) (fun _ => tv (.int k (k.wrap (0 - a)))) :=
  opj_pure fun F w a he => ⟨_, by simp [execOp, hx.val (by simp [Op.operands]) he, Op.unary, Op.intArith], rfl⟩
theorem op_or {c e : Bool} (hx : Fct Γ x (tv (.bool c))) (hy : c = false → Fct Γ y (tv (.bool e))) : OpJ P ⟨d, .pick x (.const (.bool true)) y, ty, pos, af, g⟩ Γ [] [] (fun _ => []) (fun _ => tv (.bool (c || e))) :=
  opj_pure fun F w a he => by
    have h1 := hx.val (by simp [Op.operands]) he
    cases c with
    | true => exact ⟨.bool true, by simp [execOp, h1, asBool, eval_const], rfl⟩
    | false => exact ⟨.bool e, by simp [execOp, h1, asBool, (hy rfl).val (by simp [Op.operands]) he], rfl⟩
theorem op_and {c e : Bool} (hx : Fct Γ x (tv (.bool c))) (hy : c = true → Fct Γ y (tv (.bool e))) : OpJ P ⟨d, .pick x y (.const (.bool false)), ty, pos, af, g⟩ Γ [] [] (fun _ => []) (fun _ => tv (.bool (c && e))) :=
  opj_pure fun F w a he => by
    have h1 := hx.val (by simp [Op.operands]) he
    cases c with
    | false => exact ⟨.bool false, by simp [execOp, h1, asBool, eval_const], rfl⟩
    | true => exact ⟨.bool e, by simp [execOp, h1, asBool, (hy rfl).val (by simp [Op.operands]) he], rfl⟩

theorem op_extract {Ts : List Ty} {i : Nat} (hx : Fct Γ x (ttup Ts)) (hT : Ts[i]? = some T) : OpJ P ⟨d, .extract x i, ty, pos, af, g⟩ Γ [] [] (fun _ => []) (fun _ => T) :=
  opj_pure fun F w a he => by
    obtain ⟨us, hv, hl, hc⟩ := hx.use (by simp [Op.operands]) he
    have hi : i < us.length := by rw [hl]; exact (List.getElem?_eq_some_iff.1 hT).1
    exact ⟨us[i], by simp [execOp, hv, Instr.extract, hi], hc i T _ hT (List.getElem?_eq_getElem hi)⟩

end

end Go.Sim
