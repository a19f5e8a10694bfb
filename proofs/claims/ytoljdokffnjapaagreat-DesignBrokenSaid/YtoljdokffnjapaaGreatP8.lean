/- The examples of chapter 15 hold. Own work. -/
import Derived.Test.YtoljdokffnjapaaGreatP7
set_option linter.all false
namespace Go.E
open Go.Proofs Classical
set_option maxRecDepth 100000
theorem wJ : FewD exD := uE.1 (by kernel_rfl)
theorem HJ : happenedR exD 0 [1] [3, 9, 0] = ([9, 3, 0], 0) := by kernel_rfl
theorem HK : runOfR exD [1, 1] [0] [3, 9, 1] = ([[3, 9, 0], [4, 9, 1], [5, 9, 1]], 2, 0) := by kernel_rfl
theorem HL : brokenByR exD [[0], [1]] 3 = ([⟨1, 0⟩], 0) := by kernel_rfl
theorem Gm (bs : List Nat) (H : Heap) : callw X2 bs 11 [] H = some (.bool true, H) := by
 have hF : 1000000 < 1000001 := by decide
 refine Gh bs H 1000001 ?_ ?_ ?_ ?_ ?_ ?_
 ·rw [zc hF wJ 0 [1] [3, 9, 0] (by decide) (by decide), HJ]
 ·rw [Gf hF wJ [1, 1] [0] [3, 9, 1] (by decide) (by decide) (by decide), HK]
 ·rw [tj hF wJ [[0], [1]] 3 (by decide) (by decide), HL]
 ·rw [wG hF _ _ (by decide)]; rfl
 ·rw [Gi hF _ _ (by decide) (by decide)]; rfl
 ·rw [rC hF _ _ (by decide)]; rfl
end Go.E
