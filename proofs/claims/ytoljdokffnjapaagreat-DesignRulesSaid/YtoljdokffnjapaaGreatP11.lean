/- Chapter 15, decompiled: the first of two errors. Own work. -/
import Derived.Test.YtoljdokffnjapaaGreatP3
import Derived.Test.YtoljdokffnjapaaGreatP2
set_option linter.all false
set_option linter.all false
namespace Go.E
open Go.Proofs Classical
set_option maxRecDepth 100000
noncomputable section
def bj (F : Nat) (a : Int) (b : Int) : Option (Int) := (if (decide (¬a = 0)) = true then some a else some b)
theorem dU (bs : List Nat) (H : Heap) (F : Nat) (a : Int) (b : Int) (R : Int) (hR0 : bj F a b = some R) : callw X bs 18 [.int .i64 a, .int .i64 b] H = some (.int .i64 R, H) := by
 refine yw2 (rs := [.tmp 4]) (N := 9) (fn := Tryz.f18) xk18 xf18 ?_
 have hR := Kp.mk hR0
 clear hR0
 rw [bj] at hR
 try refine zw ?_
 rcases iteE hR with ⟨c1, hR⟩ | ⟨c1, hR⟩
 ·obtain rfl := someE hR
  exact zv
 ·obtain rfl := someE hR
  exact zv
end
end Go.E
