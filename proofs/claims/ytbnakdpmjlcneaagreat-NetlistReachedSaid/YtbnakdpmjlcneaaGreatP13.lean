/- awake: the trace, reckoned by the kernel. Own work. -/
import Derived.Test.YtbnakdpmjlcneaaGreatP11
set_option linter.all false
namespace Go.E
open Go.Proofs
set_option maxRecDepth 1000000
set_option maxHeartbeats 4000000
theorem aw_trace (a b : HObj) : callC X 60 [1, 0] 21 [awNet (.list []), ill [[1], [1], [1], [0], [1]]] [a, b] = some (.tuple [ill [[0], [0], [0], [1], [1]], ii 0], [a, b]) :=
  by kernel_rfl

end Go.E
