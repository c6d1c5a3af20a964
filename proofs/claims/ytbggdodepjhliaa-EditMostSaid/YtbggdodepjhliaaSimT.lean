/- What the row's condition on listed variables gives: cells, tables of strings, a map of functions. No condition. -/
import Derived.Test.YtbggdodepjhliaaSimG
import Derived.ProofKit
import Derived.OpenShut
import Derived.LaidMore
import Derived.Lib.LaidTab
import Derived.WideKeyElems2
namespace Go.Sim
open Go.ChangeShapes Go.WideShapes Go.WideElems

/-- An entry of the table: the key, the function's name and its number. -/
structure Fent where
 key:Int
 b:UInt8
 r:List UInt8
 f:FuncId
def Fent.read (d:Fent):Lit×DataW (List UInt8):=(.int .i64 d.key,.agg [.held (d.b::d.r)])
def Fent.ent (d:Fent):Value×Value:=(.int .i64 d.key,.agg #[.func (.func d.f) #[] #[]])

end Go.Sim
