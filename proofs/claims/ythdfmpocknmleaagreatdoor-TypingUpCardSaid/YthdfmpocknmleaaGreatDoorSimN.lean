/- The logic's fourteenth part: slices that are nil exactly if they are empty, slices without room, functions as values. No condition. -/
import Derived.Test.YthdfmpocknmleaaGreatDoorSimM
namespace Go.Sim

theorem Fct.fnE {Γ : List (Nat × Ty)} {f : FuncId} : Fct Γ (.func f) (tcloE f []) := fun F w a h => ⟨[], Fct.fn F w a h⟩

section
variable {Γ : List (Nat × Ty)} {P : Program} {d : Option Tmp} {ty : TypeId} {pos : String} {af : Array Edge} {g : Option (Nat × Bool)} {x y : Operand} {T : Ty} {t e : TypeId} {α : Type} {R : Rep α} {bytes : Nat} {z : Value} {xs ys : List α}

end

end Go.Sim
