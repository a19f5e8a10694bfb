/- awake answers true. Own work. -/
import Derived.Test.YtbnakdpmjlcneaaGreatP12
import Derived.Test.YtbnakdpmjlcneaaGreatP13
set_option linter.all false
namespace Go.E
open Go.Proofs
set_option maxRecDepth 100000
set_option maxHeartbeats 4000000

theorem rl_net (bs : List Nat) (H : Heap)  : callw X bs 51 [] H = some (awNet (.list []), H) := by
  refine call_at (rs := [.cell 0 27]) (N := 19) (fn := Tryz.f51) xk51 xf51 rfl rfl rfl (by simp only [seval, push_cast, List.map_cons, List.map_nil, V.norm, norm1]; rfl) ?_
  simp only [awNet, nd, il, ii, List.map_cons, List.map_nil]
  all_goals try (refine zs ?_; repeat' first | apply zs0 | apply zs2 | (intro hc; try have hq := dq hc))

theorem aw_l1 (a b c d : HObj) : callC X 60 [1, 0] 29 [ill [[0], [0], [0], [1], [1]], ill [[0], [0], [0], [1], [1]]] [a, b, c, d] = some (.bool true, [a, b, c, d]) :=
  by kernel_rfl
theorem aw_l2 (a b c d e : HObj) : callC X 60 [1, 0] 29 [ill [[0, 1], [1, 1], [2, 1]], ill [[0, 1], [1, 1], [2, 1]]] [a, b, c, d, e] = some (.bool true, [a, b, c, d, e]) :=
  by kernel_rfl
theorem aw_l3 (a b c d e : HObj) : callC X 60 [1, 0] 16 [il [0], il [0]] [a, b, c, d, e] = some (.bool true, [a, b, c, d, e]) :=
  by kernel_rfl
theorem aw_l4 (a b c d e : HObj) : callC X 60 [1, 0] 16 [il [0, 1, 2, 3, 5, 6], il [0, 1, 2, 3, 5, 6]] [a, b, c, d, e] = some (.bool true, [a, b, c, d, e]) :=
  by kernel_rfl
theorem la_awake (cs : List V) : callw X [0] 10 [] [.cells cs] = some (.bool true, [.cells cs]) := by
  have t0 := rl_net
  have t1 := fun a b => callw_run (aw_trace a b)
  have t2 := fun a b c => callw_run (aw_states a b c)
  have t3 := fun a b c => callw_run (aw_used a b c)
  have t4 := fun a b c d => callw_run (aw_l1 a b c d)
  have t5 := fun a b c d e => callw_run (aw_l2 a b c d e)
  have t6 := fun a b c d e => callw_run (aw_l3 a b c d e)
  have t7 := fun a b c d e => callw_run (aw_l4 a b c d e)
  simp only [ill, il, ii, List.map_cons, List.map_nil] at t1 t2 t3 t4 t5 t6 t7
  refine call_at (rs := [.tmp 0]) (N := 71) (fn := Tryz.f10) xk10 xf10 rfl rfl rfl (by simp only [seval, push_cast, List.map_cons, List.map_nil, V.norm, norm1]; rfl) ?_
  all_goals try (refine zs ?_; repeat' first | apply zs0 | apply zs2 | (intro hc; try have hq := dq hc))

end Go.E
