/- The logic's tenth part: function values. No condition. -/
import Derived.Test.YthdfmpocknmleaaGreatDoorSimI
namespace Go.Sim

/-- A closure with captured values of some types. -/
def tcloE (f : FuncId) (Tc : List Ty) : Ty := ⟨fun F w v => ∃ caps, (tclo f caps Tc).ok F w v, fun hF hh ⟨caps, h⟩ => ⟨caps, (tclo f caps Tc).keep hF hh h⟩⟩
inductive Caps (Γ : List (Nat × Ty)) : List Operand → List Ty → Prop where
  | nil : Caps Γ [] []
  | cons {x : Operand} {T : Ty} {xs : List Operand} {Ts : List Ty} (h : Fct Γ x T) (hs : Caps Γ xs Ts) : Caps Γ (x :: xs) (T :: Ts)
theorem Caps.cells {Γ : List (Nat × Ty)} {xs : List Operand} {Ts : List Ty} {F : Blk} {w : World} {a : Act} (h : Caps Γ xs Ts) (he : ∀ p ∈ Γ, Operand.tmp p.1 ∈ xs → p.2.ok F w (get a p.1)) : Cells Ts F w (xs.map a.eval) := by
  induction h with
  | nil => exact .nil
  | @cons x T xs Ts h hs ih => exact .cons (h F w a (fun p hp e => he p hp (by rw [e]; simp))) (ih (fun p hp e => he p hp (by simp [e])))

section
variable {Γ : List (Nat × Ty)} {P : Program} {d : Option Tmp} {ty : TypeId} {pos : String} {af : Array Edge} {g : Option (Nat × Bool)} {x y : Operand} {T : Ty} {t e : TypeId} {α : Type} {R : Rep α} {bytes : Nat} {z : Value}

theorem op_clo {fid : FuncId} {xs : List Operand} {Tc : List Ty} (h : Caps Γ xs Tc) : OpJ P ⟨d, .makeFunc (.func fid) #[] xs.toArray, ty, pos, af, g⟩ Γ [] [] (fun _ => []) (fun _ => tcloE fid Tc) :=
  opj_pure fun F w a he => ⟨.func (.func fid) #[] (xs.map a.eval).toArray, by simp [execOp, Instr.makeFunc], xs.map a.eval, rfl, h.cells (fun p hp hx => he p hp (by simp [Op.operands, hx]))⟩
/-! A test on whether a slice is nil -/

end

theorem idx_ne {α : Type} {xs : List α} {i : Int} {u : α} (h : idx xs i = some u) : xs ≠ [] := by
  unfold idx at h
  split at h
  · intro hn; rw [hn] at h; simp at h
  · cases h

end Go.Sim
