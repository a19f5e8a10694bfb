/- awake's net, as it stands; what is used in it. Own work. -/
import Derived.Test.YtbnakdpmjlcneaaGreatP7
import Derived.Test.YtbnakdpmjlcneaaGreatP3
set_option linter.all false
namespace Go.E
open Go.Proofs
set_option maxRecDepth 1000000
set_option maxHeartbeats 4000000
def ii (n : Int) : V := .int .i64 n
def il (l : List Int) : V := .list (l.map (.int .i64))
def ill (l : List (List Int)) : V := .list (l.map fun x => .list (x.map (.int .i64)))
def nd (a b : Int) (l : V) (c : Int) : V := .agg [ii a, ii b, l, ii c]
def awNet (z : V) : V := .agg [.str ⟨#[99, 111, 117, 110, 116]⟩, .list [.agg [.str ⟨#[111, 110]⟩, ii 1]],
  .list [.agg [.str ⟨#[99]⟩, ii 2, ii 0, ii 0, ii 3], .agg [.str ⟨#[115, 112, 97, 114, 101]⟩, ii 1, ii 1, ii 0, ii 4]],
  .list [nd 1 1 z 0, nd 1 2 z 1, nd 0 2 z 1, nd 6 2 (il [1, 2]) 0, nd 1 1 z 2, nd 0 2 z 3, nd 9 1 (il [1, 5]) 0],
  .list [.agg [.str ⟨#[102, 117, 108, 108]⟩, ii 6]]]
theorem aw_used (a b c : HObj) : callC X 60 [1, 0] 31 [awNet (.list [])] [a, b, c] = some (.tuple [il [0], il [0, 1, 2, 3, 5, 6], ii 0], [a, b, c]) :=
  by kernel_rfl

end Go.E
