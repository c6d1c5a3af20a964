/- Edit: the reference's check accepts a flow of least cost with its levels. No condition. -/
import Derived.Test.YtbggdodepjhliaaEdR
namespace Go.Proofs.Ytbggdodepjhliaa
open Go.Sim

theorem cv_at {l:List Qb} {i:Nat} {e:Qb} (h:l[i]?=some e):idx (l.map cv) (i:Int)=some (cv e):=by
  rw[QcT,List.getElem?_map,h];rfl

end Go.Proofs.Ytbggdodepjhliaa
