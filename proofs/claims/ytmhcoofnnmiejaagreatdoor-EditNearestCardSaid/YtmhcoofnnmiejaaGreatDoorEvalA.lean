/- Computable copies of the functions that the examples reach. No condition. -/
import Derived.Test.YtmhcoofnnmiejaaGreatDoorGenAll
import Derived.Test.YtmhcoofnnmiejaaGreatDoorSimO
set_option linter.all false
open Go.IntKind
namespace Go.Proofs.YtmhcoofnnmiejaaGreatDoor
open Go.Sim
set_option maxRecDepth 100000
class LeC {α:Type} (x y:Option α):Prop where
  le:Le x y
theorem leX {α:Type} {x y:Option α} (h:Le x y:=by repeat (first | with_reducible exact Le.rfl | with_reducible exact LeC.le | with_reducible refine Le.bind ?_ (λ_=>?_) | with_reducible refine Le.ite ?_ ?_ | with_reducible refine Le.loop (λ_=>?_) | with_reducible refine Le.opt ?_ | with_reducible refine Le.jn1 (λ_=>?_) (λ_ _ a=>?_) | refine Le.sum (λ_=>?_) (λ_=>?_) | exact Le.rfl | (rename_i e;cases e<;>dsimp only) | apply_assumption)):Le x y:=h
def QlJ (_:Nat) (a:Int) (b:Int):Option (Int×Int):=(some ((u64.wrap ((u64.wrap ((u64.wrap ((ishr .u64 a (32:Int)) * (ishr .u64 b (32:Int))))+(ishr .u64 (u64.wrap ((u64.wrap ((ishr .u64 a (32:Int)) * (iand .u64 b (4294967295:Int))))+(ishr .u64 (u64.wrap ((iand .u64 a (4294967295:Int)) * (iand .u64 b (4294967295:Int)))) (32:Int)))) (32:Int))))+(ishr .u64 (u64.wrap ((iand .u64 (u64.wrap ((u64.wrap ((ishr .u64 a (32:Int)) * (iand .u64 b (4294967295:Int))))+(ishr .u64 (u64.wrap ((iand .u64 a (4294967295:Int)) * (iand .u64 b (4294967295:Int)))) (32:Int)))) (4294967295:Int))+(u64.wrap ((iand .u64 a (4294967295:Int)) * (ishr .u64 b (32:Int)))))) (32:Int)))),(u64.wrap (a * b))))
instance {fuel:Nat} {a:Int} {b:Int}:LeC (QlJ fuel a b) (Qim a b):=⟨by unfold QlJ Qim;exact leX⟩
def QnN (fuel:Nat) (a:Int) (b:Int):Option (Int×Int):=(QlJ fuel a b).bind λt25=>(some (t25.1,t25.2))
instance {fuel:Nat} {a:Int} {b:Int}:LeC (QnN fuel a b) (QjY a b):=⟨by unfold QnN QjY;exact leX⟩
def Qdk (fuel:Nat) (c:(List Int)) (b:Int):Option ((List Int)):=(if (decide (b<(0:Int)))=true then none else (QnN fuel (u64.wrap (c.length:Int)) (u64.wrap b)).bind λt18=>(if ((decide (t18.1>(0:Int)))||(decide (t18.2>(9223372036854775807:Int))))=true then none else (mk (i64.wrap t18.2) (0:Int)).bind λt30=>(Qc7 fuel (λ(a:Int×List Int)=>((if (decide (a.1<(a.2.length:Int)))=true then (sub a.2 a.1 (a.2.length:Int)).bind λt41=>(sub a.2 (0:Int) a.1).bind λt44=>(some (.inl ((i64.wrap (a.1+(Nat.min t44.length t41.length:Int))),(a.2.take (a.1).toNat++cpy t41 t44++a.2.drop ((a.2.length:Int)).toNat)))) else (some (.inr a.2))):Option ((Int×List Int)⊕((List Int))))) ((Nat.min c.length t30.length:Int),(cpy t30 c))).bind λ(d:(List Int))=>(some d)))
instance {fuel:Nat} {b:(List Int)} {a:Int}:LeC (Qdk fuel b a) (Qb6 b a):=⟨by unfold Qdk Qb6;exact leX⟩
