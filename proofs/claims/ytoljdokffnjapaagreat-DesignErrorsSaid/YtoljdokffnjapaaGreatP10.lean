/- Laws of chapter 15 in E. Own work. -/
import Derived.Test.YtoljdokffnjapaaGreatP9
import Derived.Test.YtoljdokffnjapaaGreatP5
set_option linter.all false
namespace Go.E
open Go.Proofs
theorem AZ (d : Desg) (s : ByteArray) : callw X2 [] 5 [.agg (cellsDesg d), .str s] [] = some (.bool true, []) := no [] [] 1000001 d s true (zo (by decide) d s)
end Go.E
