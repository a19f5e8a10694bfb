/- The examples of chapter 15 hold. Own work. -/
import Derived.Test.YtoljdokffnjapaaGreatP6
import Derived.Test.YtoljdokffnjapaaGreatP7
set_option linter.all false
namespace Go.E
open Go.Proofs Classical
set_option maxRecDepth 100000
theorem xg : FewD exD := uZ.1 (by kernel_rfl)
theorem Ie : happenedR exD 0 [1] [3, 9, 0] = ([9, 3, 0], 0) := by kernel_rfl
theorem If : runOfR exD [1, 1] [0] [3, 9, 1] = ([[3, 9, 0], [4, 9, 1], [5, 9, 1]], 2, 0) := by kernel_rfl
theorem Ig : brokenByR exD [[0], [1]] 3 = ([⟨1, 0⟩], 0) := by kernel_rfl
theorem GI (bs : List Nat) (H : Heap) : callw X2 bs 11 [] H = some (.bool true, H) := by
 have hF : 1000000 < 1000001 := by decide
 refine GC bs H 1000001 ?_ ?_ ?_ ?_ ?_ ?_
 ·rw [zI hF xg 0 [1] [3, 9, 0] (by decide) (by decide), Ie]
 ·rw [GA hF xg [1, 1] [0] [3, 9, 1] (by decide) (by decide) (by decide), If]
 ·rw [zL hF xg [[0], [1]] 3 (by decide) (by decide), Ig]
 ·rw [tN hF _ _ (by decide)]; rfl
 ·rw [GD hF _ _ (by decide) (by decide)]; rfl
 ·rw [xY hF _ _ (by decide)]; rfl
end Go.E
