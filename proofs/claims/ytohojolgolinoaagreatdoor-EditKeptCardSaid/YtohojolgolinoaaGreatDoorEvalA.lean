/- Computable copies of the functions that the examples reach. No condition. -/
import Derived.Test.YtohojolgolinoaaGreatDoorGenAll
import Derived.Test.YtohojolgolinoaaGreatDoorSimO
set_option linter.all false
open Go.IntKind
namespace Go.Proofs.YtohojolgolinoaaGreatDoor
open Go.Sim
set_option maxRecDepth 100000
class LeC {α:Type} (x y:Option α):Prop where
  le:Le x y
theorem leX {α:Type} {x y:Option α} (h:Le x y:=by repeat (first | with_reducible exact Le.rfl | with_reducible exact LeC.le | with_reducible refine Le.bind ?_ (λ_=>?_) | with_reducible refine Le.ite ?_ ?_ | with_reducible refine Le.loop (λ_=>?_) | with_reducible refine Le.opt ?_ | with_reducible refine Le.jn1 (λ_=>?_) (λ_ _ a=>?_) | refine Le.sum (λ_=>?_) (λ_=>?_) | exact Le.rfl | (rename_i e;cases e<;>dsimp only) | apply_assumption)):Le x y:=h
def PR (_:Nat) (a:Int) (b:Int):Option (Int×Int):=some (u64.wrap ((u64.wrap ((u64.wrap ((ishr .u64 a (32:Int)) * (ishr .u64 b (32:Int))))+(ishr .u64 (u64.wrap ((u64.wrap ((ishr .u64 a (32:Int)) * (iand .u64 b (4294967295:Int))))+(ishr .u64 (u64.wrap ((iand .u64 a (4294967295:Int)) * (iand .u64 b (4294967295:Int)))) (32:Int)))) (32:Int))))+(ishr .u64 (u64.wrap ((iand .u64 (u64.wrap ((u64.wrap ((ishr .u64 a (32:Int)) * (iand .u64 b (4294967295:Int))))+(ishr .u64 (u64.wrap ((iand .u64 a (4294967295:Int)) * (iand .u64 b (4294967295:Int)))) (32:Int)))) (4294967295:Int))+(u64.wrap ((iand .u64 a (4294967295:Int)) * (ishr .u64 b (32:Int)))))) (32:Int))),u64.wrap (a * b))
instance {fuel:Nat} {a:Int} {b:Int}:LeC (PR fuel a b) (MA a b):=⟨by unfold PR MA;exact leX⟩
def PS (fuel:Nat) (a:Int) (b:Int):Option (Int×Int):=(PR fuel a b).bind λt25=>some (t25.1,t25.2)
instance {fuel:Nat} {a:Int} {b:Int}:LeC (PS fuel a b) (MB a b):=⟨by unfold PS MB;exact leX⟩
def HO (fuel:Nat) (c:Lz) (b:Int):Option Lz:=if decide (b<(0:Int)) then none else (PS fuel (u64.wrap (c.length:Int)) (u64.wrap b)).bind λt18=>(if (decide (t18.1>(0:Int)))||(decide (t18.2>(9223372036854775807:Int))) then none else (mk (i64.wrap t18.2) (0:Int)).bind λt30=>(D0 fuel (λ(a:Int×Lz)=>((if decide (a.1<(a.2.length:Int)) then (sub a.2 a.1 (a.2.length:Int)).bind λt41=>(sub a.2 (0:Int) a.1).bind λt44=>some (.inl (i64.wrap (a.1+(Nat.min t44.length t41.length:Int)),a.2.take (a.1).toNat++cpy t41 t44++a.2.drop ((a.2.length:Int)).toNat)) else some (.inr a.2)):Option ((Int×Lz)⊕Lz))) ((Nat.min c.length t30.length:Int),cpy t30 c)).bind λ(d:Lz)=>some d)
instance {fuel:Nat} {b:Lz} {a:Int}:LeC (HO fuel b a) (F8 b a):=⟨by unfold HO F8;exact leX⟩
