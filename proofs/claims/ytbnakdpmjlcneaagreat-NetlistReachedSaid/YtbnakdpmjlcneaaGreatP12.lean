/- awake: the states, reckoned by the kernel. Own work. -/
import Derived.Test.YtbnakdpmjlcneaaGreatP11
set_option linter.all false
namespace Go.E
open Go.Proofs
set_option maxRecDepth 1000000
set_option maxHeartbeats 4000000
theorem aw_states (a b c : HObj) : callC X 60 [1, 0] 23 [awNet (.list []), ill [[1], [1]]] [a, b, c] = some (.tuple [ill [[0, 1], [1, 1], [2, 1]], ii 0], [a, b, c]) :=
  by kernel_rfl

end Go.E
