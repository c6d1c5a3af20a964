/- Package bounds: its examples. No condition. -/
import Derived.Test.YtjniiejgccdhiaaEvalA
import Derived.Test.YtjniiejgccdhiaaPlain
namespace Go.Proofs.Ytjniiejgccdhiaa
open Go.Sim

theorem lives14_is : flives14 = some true := glives14_le (fuel := 200) true (by kernel_rfl)

end Go.Proofs.Ytjniiejgccdhiaa
