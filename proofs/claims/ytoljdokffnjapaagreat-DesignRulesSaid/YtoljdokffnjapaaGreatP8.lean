/- The examples of chapter 15 hold. Own work. -/
import Derived.Test.YtoljdokffnjapaaGreatP7
set_option linter.all false
namespace Go.E
open Go.Proofs Classical
set_option maxRecDepth 100000
theorem wO : FewD exD := uP.1 (by kernel_rfl)
theorem Hz : happenedR exD 0 [1] [3, 9, 0] = ([9, 3, 0], 0) := by kernel_rfl
theorem HA : runOfR exD [1, 1] [0] [3, 9, 1] = ([[3, 9, 0], [4, 9, 1], [5, 9, 1]], 2, 0) := by kernel_rfl
theorem HB : brokenByR exD [[0], [1]] 3 = ([⟨1, 0⟩], 0) := by kernel_rfl
theorem ub (bs : List Nat) (H : Heap) : callw X2 bs 11 [] H = some (.bool true, H) := by
 have hF : 1000000 < 1000001 := by decide
 refine F8 bs H 1000001 ?_ ?_ ?_ ?_ ?_ ?_
 ·rw [pJ hF wO 0 [1] [3, 9, 0] (by decide) (by decide), Hz]
 ·rw [tW hF wO [1, 1] [0] [3, 9, 1] (by decide) (by decide) (by decide), HA]
 ·rw [zi hF wO [[0], [1]] 3 (by decide) (by decide), HB]
 ·rw [lq hF _ _ (by decide)]; rfl
 ·rw [tY hF _ _ (by decide) (by decide)]; rfl
 ·rw [xJ hF _ _ (by decide)]; rfl
end Go.E
