/- The logic's tenth part: function values. No condition. -/
import Derived.Test.YtjniiejgccdhiaaSimI
namespace Go.Sim

/-- A function value as a datum: nil, or a function and what it captured. -/
def cloV : Option (FuncId × List Value) → Value
  | none => .nilFunc
  | some (f, caps) => .func (.func f) #[] caps.toArray
@[reducible] def rClo : Rep (Option (FuncId × List Value)) := ⟨fun x => [tv (cloV x)], 1, false, fun _ => rfl, fun x => one_cons (one_tv (by cases x <;> rfl)) one_nil, fun _ => rfl⟩

/-- A closure with captured values of some types. -/
def tcloE (f : FuncId) (Tc : List Ty) : Ty := ⟨fun F w v => ∃ caps, (tclo f caps Tc).ok F w v, fun hF hh ⟨caps, h⟩ => ⟨caps, (tclo f caps Tc).keep hF hh h⟩⟩
/-- A function value that answers as the predicate p does. -/
def tpred (P : Program) {α : Type} (R : Rep α) (p : α → Option Bool) : Ty :=
  ⟨fun F w v => ∃ f Tc, (tcloE f Tc).ok F w v ∧ Callable P f ∧ ∀ x b, p x = some b → FnOk P f (R.ty x :: Tc) [] (fun _ => []) (fun _ => tv (.bool b)), fun hF hh ⟨f, Tc, h, r⟩ => ⟨f, Tc, (tcloE f Tc).keep hF hh h, r⟩⟩
theorem pred_of {P : Program} {α : Type} {R : Rep α} {p : α → Option Bool} {f : FuncId} {Tc : List Ty} (hc : Callable P f) (h : ∀ x b, p x = some b → FnOk P f (R.ty x :: Tc) [] (fun _ => []) (fun _ => tv (.bool b))) : ∀ F w v, (tcloE f Tc).ok F w v → (tpred P R p).ok F w v :=
  fun _ _ _ hv => ⟨f, Tc, hv, hc, h⟩

inductive Caps (Γ : List (Nat × Ty)) : List Operand → List Ty → Prop where
  | nil : Caps Γ [] []
  | cons {x : Operand} {T : Ty} {xs : List Operand} {Ts : List Ty} (h : Fct Γ x T) (hs : Caps Γ xs Ts) : Caps Γ (x :: xs) (T :: Ts)
theorem Caps.cells {Γ : List (Nat × Ty)} {xs : List Operand} {Ts : List Ty} {F : Blk} {w : World} {a : Act} (h : Caps Γ xs Ts) (he : ∀ p ∈ Γ, Operand.tmp p.1 ∈ xs → p.2.ok F w (get a p.1)) : Cells Ts F w (xs.map a.eval) := by
  induction h with
  | nil => exact .nil
  | @cons x T xs Ts h hs ih => exact .cons (h F w a (fun p hp e => he p hp (by rw [e]; simp))) (ih (fun p hp e => he p hp (by simp [e])))

section
variable {Γ : List (Nat × Ty)} {P : Program} {d : Option Tmp} {ty : TypeId} {pos : String} {af : Array Edge} {g : Option (Nat × Bool)} {x y : Operand} {T : Ty} {t e : TypeId} {α : Type} {R : Rep α} {bytes : Nat} {z : Value}

theorem op_clo {fid : FuncId} {xs : List Operand} {Tc : List Ty} (h : Caps Γ xs Tc) : OpJ P ⟨d, .makeFunc (.func fid) #[] xs.toArray, ty, pos, af, g⟩ Γ [] [] (fun _ => []) (fun _ => tcloE fid Tc) :=
  opj_pure fun F w a he => ⟨.func (.func fid) #[] (xs.map a.eval).toArray, by simp [execOp, Instr.makeFunc], xs.map a.eval, rfl, h.cells (fun p hp hx => he p hp (by simp [Op.operands, hx]))⟩
theorem op_clo1 {fid : FuncId} {q : Value} (h : Fct Γ x (tv q)) : OpJ P ⟨d, .makeFunc (.func fid) #[] #[x], ty, pos, af, g⟩ Γ [] [] (fun _ => []) (fun _ => tv (cloV (some (fid, [q])))) :=
  op_makeFunc (caps := #[q]) fun F w a he => by
    have := h.val (by simp) he
    simp [this]
theorem op_callP {u : α} {b : Bool} {p : α → Option Bool} {ts : Array TypeId} (hf : Fct Γ x (tpred P R p)) (hx : Fct Γ y (R.ty u)) (h : p u = some b) : OpJ P ⟨d, .call { callee := .value x, args := #[y], argTypes := ts }, ty, pos, af, g⟩ Γ [] [] (fun _ => []) (fun _ => tv (.bool b)) := by
  intro M w a hM hU hE hap hUE he
  obtain ⟨f, Tc, ⟨caps, hv, hcap⟩, hc, hok⟩ := hf.use (by simp [Op.operands, Call.operands]) he
  have hxv := hx.use (by simp [Op.operands, Call.operands]) he
  have hr := run_call (ty := ty) (pos := pos) (af := af) (g := g) (d := d) (xs := [y]) (ts := ts) (w := w) hc hv
  simp only [Does, hr]
  refine Calls.mono (hok u b h M w _ hM hE hap (Cells.cons hxv hcap)) ?_
  rintro en w' ⟨x0, v, hen, h⟩
  exact ⟨v, hen, x0, h⟩

/-- What a recursive closure captured: the variable that holds it. -/
def tself (fid : FuncId) (q : Value) : Ty := tand (tv q) (tptr (rClo.cs (some (fid, [q]))))
theorem op_loadSelf {fid : FuncId} {q : Value} (hz : TOk P t rClo bytes z) (hx : Fct Γ x (tself fid q)) : OpJ P ⟨d, .load t x, ty, pos, af, g⟩ Γ [] [] (fun _ => []) (fun _ => tclo fid [q] [tself fid q]) :=
  opj_pure fun F w a he => by
    have hself := hx.use (by simp [Op.operands]) he
    obtain ⟨hq, b, off, hv, hb, hr⟩ := hself
    obtain ⟨v, hrun, hty⟩ := run_loadAt hz hr
    refine ⟨v, by simp only [execOp, hv, Sem.run_bind, hrun, Result.andThen_ok, Sem.run_pure], hty, Cells.cons ?_ Cells.nil⟩
    have hq' : a.eval x = q := hq
    refine ⟨rfl, b, off, ?_, hb, hr⟩
    rw [← hq', hv]
/-- A call through a closure that the caller holds in a variable of its own. -/
theorem op_callSelf {fid : FuncId} {q : Value} {xs : List Operand} {Ts : List Ty} {ts : Array TypeId} {T : Ty} (hc : Callable P fid) (hfn : FnOk P fid (Ts ++ [tself fid q]) [] (fun _ => []) (fun _ => T)) (hT : FlatT T) (hf : Fct Γ x (tv (cloV (some (fid, [q]))))) (ha : Args Γ [box (rClo.cs (some (fid, [q]))) q] xs Ts) :
    OpJ P ⟨d, .call { callee := .value x, args := xs.toArray, argTypes := ts }, ty, pos, af, g⟩ Γ [box (rClo.cs (some (fid, [q]))) q] [] (fun _ => []) (fun _ => T) :=
  op_callU _ hc hfn (.clo1 hf (.head _)) ha (fun _ => hT) (fun _ => flatN0 (x := undef))
theorem op_callRec {fid : FuncId} {q : Value} {xs : List Operand} {Ts : List Ty} {ts : Array TypeId} {T : Ty} (hc : Callable P fid) (hfn : FnOk P fid (Ts ++ [tself fid q]) [] (fun _ => []) (fun _ => T)) (hf : Fct Γ x (tclo fid [q] [tself fid q])) (ha : Args Γ [] xs Ts) :
    OpJ P ⟨d, .call { callee := .value x, args := xs.toArray, argTypes := ts }, ty, pos, af, g⟩ Γ [] [] (fun _ => []) (fun _ => T) :=
  op_call hc hfn hf ha

/-! A test on whether a slice is nil -/

def tnil {α : Type} (xs : List α) (neg : Bool) : Ty := ⟨fun _ _ v => ∃ b, v = .bool b ∧ ((b != neg) = true → xs = []), fun _ _ h => h⟩
theorem op_eqNil' {xs : List α} {t2 : TypeId} (ht : P.underlying t = some (.slice e)) (hx : Fct Γ x (tsl R xs)) : OpJ P ⟨d, .binOp .eql t x (.const (.slice none 0 0)) t2, ty, pos, af, g⟩ Γ [] [] (fun _ => []) (fun _ => tnil xs false) :=
  opj_pure fun F w a he => by
    obtain ⟨ad, cap, hv, _, hr⟩ := hx.use (by simp [Op.operands]) he
    refine ⟨.bool ad.isNone, ?_, _, rfl, fun hb => ?_⟩
    · simp [execOp, hv, eval_const, eqGuard, binOp, run_equal_nil ht]
    · cases hxs : xs with
      | nil => rfl
      | cons u us =>
        obtain ⟨b, off, ha, _⟩ := hr (by rw [hxs]; simp)
        rw [ha] at hb; simp at hb
theorem wp_test_nil {M : Fr} {w0 : World} {n : Nat} {As : List Atom} {a : Act} {w : World} {s : Nat} {xs : List α} {c1 c2 : Code} {Q : Exit → Act → World → Prop} (i : Nat) (hst : St M w0 n Γ As a w) (hi : Γ[i]? = some (s, tnil xs false)) (ht : xs = [] → c1.wp P Q a w) (hf : c2.wp P Q a w) : (Code.cond (.tmp s) c1 c2).wp P Q a w := by
  obtain ⟨b, hv, hb⟩ : ∃ b, a.eval (.tmp s) = .bool b ∧ ((b != false) = true → xs = []) := hst.slots (s, tnil xs false) (List.mem_of_getElem? hi)
  cases b with
  | true => exact wp_cond_true hv (ht (hb rfl))
  | false => exact wp_cond_false hv hf
end

theorem idx_ne {α : Type} {xs : List α} {i : Int} {u : α} (h : idx xs i = some u) : xs ≠ [] := by
  unfold idx at h
  split at h
  · intro hn; rw [hn] at h; simp at h
  · cases h

end Go.Sim
