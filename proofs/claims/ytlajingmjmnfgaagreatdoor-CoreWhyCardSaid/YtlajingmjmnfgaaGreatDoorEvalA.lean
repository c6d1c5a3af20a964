/- Computable copies of the functions that the examples reach. No condition. -/
import Derived.Test.YtlajingmjmnfgaaGreatDoorGenAll
import Derived.Test.YtlajingmjmnfgaaGreatDoorSimO
set_option linter.all false
open Go.IntKind
namespace Go.Proofs.YtlajingmjmnfgaaGreatDoor
open Go.Sim
set_option maxRecDepth 100000
class LeC {α:Type} (x y:Option α):Prop where
  le:Le x y
theorem leX {α:Type} {x y:Option α} (h:Le x y:=by repeat (first | with_reducible exact Le.rfl | with_reducible exact LeC.le | with_reducible refine Le.bind ?_ (λ_=>?_) | with_reducible refine Le.ite ?_ ?_ | with_reducible refine Le.loop (λ_=>?_) | with_reducible refine Le.opt ?_ | with_reducible refine Le.jn1 (λ_=>?_) (λ_ _ hj=>?_) | refine Le.sum (λ_=>?_) (λ_=>?_) | exact Le.rfl | (rename_i e;cases e<;>dsimp only) | apply_assumption)):Le x y:=h
def QjO (_:Nat) (x_:Int) (y_:Int):Option (Int×Int):=(some ((u64.wrap ((u64.wrap ((u64.wrap ((ishr .u64 x_ (32:Int)) * (ishr .u64 y_ (32:Int))))+(ishr .u64 (u64.wrap ((u64.wrap ((ishr .u64 x_ (32:Int)) * (iand .u64 y_ (4294967295:Int))))+(ishr .u64 (u64.wrap ((iand .u64 x_ (4294967295:Int)) * (iand .u64 y_ (4294967295:Int)))) (32:Int)))) (32:Int))))+(ishr .u64 (u64.wrap ((iand .u64 (u64.wrap ((u64.wrap ((ishr .u64 x_ (32:Int)) * (iand .u64 y_ (4294967295:Int))))+(ishr .u64 (u64.wrap ((iand .u64 x_ (4294967295:Int)) * (iand .u64 y_ (4294967295:Int)))) (32:Int)))) (4294967295:Int))+(u64.wrap ((iand .u64 x_ (4294967295:Int)) * (ishr .u64 y_ (32:Int)))))) (32:Int)))),(u64.wrap (x_ * y_))))
instance {fuel:Nat} {x_:Int} {y_:Int}:LeC (QjO fuel x_ y_) (QgP x_ y_):=⟨by unfold QjO QgP;exact leX⟩
def QlO (fuel:Nat) (x_:Int) (y_:Int):Option (Int×Int):=(QjO fuel x_ y_).bind λt25=>(some (t25.1,t25.2))
instance {fuel:Nat} {x_:Int} {y_:Int}:LeC (QlO fuel x_ y_) (Qh8 x_ y_):=⟨by unfold QlO Qh8;exact leX⟩
def Qev (fuel:Nat) (x_:(List Int)) (count_:Int):Option ((List Int)):=(if (decide (count_<(0:Int)))=true then none else (QlO fuel (u64.wrap (x_.length:Int)) (u64.wrap count_)).bind λt18=>(if ((decide (t18.1>(0:Int)))||(decide (t18.2>(9223372036854775807:Int))))=true then none else (mk (i64.wrap t18.2) (0:Int)).bind λt30=>(QtX fuel (λ(s11:Int×List Int)=>((if (decide (s11.1<(s11.2.length:Int)))=true then (sub s11.2 s11.1 (s11.2.length:Int)).bind λt41=>(sub s11.2 (0:Int) s11.1).bind λt44=>(some (.inl ((i64.wrap (s11.1+(Nat.min t44.length t41.length:Int))),(s11.2.take (s11.1).toNat++cpy t41 t44++s11.2.drop ((s11.2.length:Int)).toNat)))) else (some (.inr s11.2))):Option ((Int×List Int)⊕((List Int))))) ((Nat.min x_.length t30.length:Int),(cpy t30 x_))).bind λ(p19:(List Int))=>(some p19)))
instance {fuel:Nat} {x_:(List Int)} {count_:Int}:LeC (Qev fuel x_ count_) (QbV x_ count_):=⟨by unfold Qev QbV;exact leX⟩
