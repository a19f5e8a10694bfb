/- Contracts of the references' base, in E: leaves, conditions. Own work. -/
import Derived.Test.YtbnakdpmjlcneaaGreatBs6
set_option linter.all false
namespace Go.E
open Go.Proofs
set_option maxRecDepth 100000
set_option maxHeartbeats 4000000

theorem bs_netLeaves (bs : List Nat) (H : Heap) (n : Netl) (hi : n.inputs.length ≤ 1000) (hr : n.regs.length ≤ 1000) : callw X bs 87 [encNetl n] H = some (.list ((leavesN n).map (.int .i64)), H) := by
  refine call_at (rs := [.tmp 2]) (N := 39) (fn := Tryz.f87) xk87 xf87 rfl rfl rfl (by simp only [seval, push_cast, List.map_cons, List.map_nil, V.norm, norm1]; rfl) ?_
  have key0 : ∀ (t : HObj) (bs : List Nat) i ρ H', i ≤ n.inputs.length → (∃ ws, ws = (n.inputs.take i).map (·.width) ∧ H' = H ++ [.cells (cellsNetl n), t, .tok ws.length] ∧ ρ 1 = .ptr H.length 0 ∧ ρ 3 = .tl (H.length + 2) (ws.map (.int .i64)) ∧ ρ 4 = .int .i64 i) →
      Lp X ⟨39, bs⟩ (loopAt Tryz.f87 0) ρ H' fun ex ρ' H' => ∃ ws, ws = n.inputs.map (·.width) ∧ H' = H ++ [.cells (cellsNetl n), t, .tok ws.length] ∧ ρ' 3 = .tl (H.length + 2) (ws.map (.int .i64)) ∧ ex = .exit 0 := by
    intro t bs
    refine loop_up ?_ ?_
    · rintro i ρ H' hlt ⟨ws, hws, rfl, h1, h3, h11⟩
      have hget : n.inputs[i]? = some n.inputs[i] := by simp [hlt]
      have htk : n.inputs.take (i + 1) = n.inputs.take i ++ [n.inputs[i]] := by rw [List.take_add_one, hget]; rfl
      generalize n.inputs[i] = p at hget htk
      have hlen : ws.length ≤ 2000 := by rw [hws]; simp; omega
      have hroom := room8 ws.length (by omega)
      have hw := add1 i n.inputs.length hlt (by omega)
      have hsn : Kp ((n.inputs.take (i + 1)).map (·.width) = ws ++ [p.width]) := ⟨by rw [htk, hws]; simp⟩
      clear hws hlen htk
      conv => arg 3; whnf
      repeat' first
       | apply z1 | apply z2
       | apply z3 | apply z4 | apply z5 | apply z6 | apply z7 | apply z8 | apply z9 | apply z10 | apply z11 | apply z12 | apply z13 | apply z14 | apply z15 | apply z18 | apply z19 | apply z20 | apply z21 | apply z22 | apply z23 | (apply z16; rfl) | (apply z17; decide)
       | ((first | apply z30 | apply z31 | ((first | apply z32 | apply z33); (simp only [seval, push_cast, *] <;> fail))); (simp only [seval, push_cast, *]; with_reducible rfl); try exact of_decide_eq_true rfl)
       | ((first | apply z34 | apply z35); (simp only [seval, push_cast, *] <;> fail); try exact of_decide_eq_true rfl)
       | ((first | (apply z24; (simp only [seval, push_cast, *]; with_reducible rfl)) | (apply z36; (simp only [seval, push_cast, *]; (fail_if_success (show _ = some true)); (fail_if_success (show _ = some false)); with_reducible rfl))); all_goals (intro hc; (try simp only [Bool.not_eq_true', Bool.not_eq_false'] at hc); (try (exact absurd hc Bool.noConfusion)); (first | have hq := dle_true hc | have hq := dlt_true hc | have hq := dle_false hc | have hq := dlt_false hc | skip); (try (exfalso; simp only [decide_eq_true_eq, decide_eq_false_iff_not] at hc; first | omega | (have := hk.out; omega)))))
       | ((first | apply z40 | apply z41 | (apply z42; (simp only [seval, push_cast, *]; with_reducible rfl))); (simp only [seval, push_cast, *]; with_reducible rfl); all_goals (first | (simp only [seval, push_cast, *] <;> fail) | (simp only [seval, push_cast] <;> fail) | (rw [frz_pure rfl] <;> (simp [*] <;> fail))))
      exact ⟨ws ++ [p.width], hsn.out.symm, by simp only [List.length_append, List.length_singleton, cellsNetl], by (first | (simp only [seval, push_cast, *]; done) | (simp only [seval, push_cast, *]; rfl)), by simp [push_cast], by (first | (simp only [seval, push_cast, *]; done) | (simp only [seval, push_cast, *]; rfl))⟩
    · rintro ρ H' ⟨ws, hws, rfl, h1, h3, h11⟩
      rw [List.take_length] at hws
      replace hws : Kp (ws = n.inputs.map (·.width)) := ⟨hws⟩
      conv => arg 3; whnf
      repeat' first
       | apply z1 | apply z2
       | apply z3 | apply z4 | apply z5 | apply z6 | apply z7 | apply z8 | apply z9 | apply z10 | apply z11 | apply z12 | apply z13 | apply z14 | apply z15 | apply z18 | apply z19 | apply z20 | apply z21 | apply z22 | apply z23 | (apply z16; rfl) | (apply z17; decide)
       | ((first | apply z30 | apply z31 | ((first | apply z32 | apply z33); (simp only [seval, push_cast, *] <;> fail))); (simp only [seval, push_cast, *]; with_reducible rfl); try exact of_decide_eq_true rfl)
       | ((first | apply z34 | apply z35); (simp only [seval, push_cast, *] <;> fail); try exact of_decide_eq_true rfl)
       | ((first | (apply z24; (simp only [seval, push_cast, *]; with_reducible rfl)) | (apply z36; (simp only [seval, push_cast, *]; (fail_if_success (show _ = some true)); (fail_if_success (show _ = some false)); with_reducible rfl))); all_goals (intro hc; (try simp only [Bool.not_eq_true', Bool.not_eq_false'] at hc); (try (exact absurd hc Bool.noConfusion)); (first | have hq := dle_true hc | have hq := dlt_true hc | have hq := dle_false hc | have hq := dlt_false hc | skip); (try (exfalso; simp only [decide_eq_true_eq, decide_eq_false_iff_not] at hc; first | omega | (have := hk.out; omega)))))
       | ((first | apply z40 | apply z41 | (apply z42; (simp only [seval, push_cast, *]; with_reducible rfl))); (simp only [seval, push_cast, *]; with_reducible rfl); all_goals (first | (simp only [seval, push_cast, *] <;> fail) | (simp only [seval, push_cast] <;> fail) | (rw [frz_pure rfl] <;> (simp [*] <;> fail))))
      exact ⟨ws, hws.out, by simp only [cellsNetl], by (first | (simp only [seval, push_cast, *]; done) | (simp only [seval, push_cast, *]; rfl)), rfl⟩
  have key1 : ∀ (t : HObj) (bs : List Nat) i ρ H', i ≤ n.regs.length → (∃ ws, ws = n.inputs.map (·.width) ++ (n.regs.take i).map (·.width) ∧ H' = H ++ [.cells (cellsNetl n), t, .tok ws.length] ∧ ρ 1 = .ptr H.length 0 ∧ ρ 3 = .tl (H.length + 2) (ws.map (.int .i64)) ∧ ρ 5 = .int .i64 i) →
      Lp X ⟨39, bs⟩ (loopAt Tryz.f87 1) ρ H' fun ex ρ' H' => ∃ ws, ws = leavesN n ∧ H' = H ++ [.cells (cellsNetl n), t, .tok ws.length] ∧ ρ' 3 = .tl (H.length + 2) (ws.map (.int .i64)) ∧ ex = .exit 2 := by
    intro t bs
    refine loop_up ?_ ?_
    · rintro i ρ H' hlt ⟨ws, hws, rfl, h1, h3, h11⟩
      have hget : n.regs[i]? = some n.regs[i] := by simp [hlt]
      have htk : n.regs.take (i + 1) = n.regs.take i ++ [n.regs[i]] := by rw [List.take_add_one, hget]; rfl
      generalize n.regs[i] = p at hget htk
      have hlen : ws.length ≤ 2000 := by rw [hws]; simp; omega
      have hroom := room8 ws.length (by omega)
      have hw := add1 i n.regs.length hlt (by omega)
      have hsn : Kp (n.inputs.map (·.width) ++ (n.regs.take (i + 1)).map (·.width) = ws ++ [p.width]) := ⟨by rw [htk, hws]; simp⟩
      clear hws hlen htk
      conv => arg 3; whnf
      repeat' first
       | apply z1 | apply z2
       | apply z3 | apply z4 | apply z5 | apply z6 | apply z7 | apply z8 | apply z9 | apply z10 | apply z11 | apply z12 | apply z13 | apply z14 | apply z15 | apply z18 | apply z19 | apply z20 | apply z21 | apply z22 | apply z23 | (apply z16; rfl) | (apply z17; decide)
       | ((first | apply z30 | apply z31 | ((first | apply z32 | apply z33); (simp only [seval, push_cast, *] <;> fail))); (simp only [seval, push_cast, *]; with_reducible rfl); try exact of_decide_eq_true rfl)
       | ((first | apply z34 | apply z35); (simp only [seval, push_cast, *] <;> fail); try exact of_decide_eq_true rfl)
       | ((first | (apply z24; (simp only [seval, push_cast, *]; with_reducible rfl)) | (apply z36; (simp only [seval, push_cast, *]; (fail_if_success (show _ = some true)); (fail_if_success (show _ = some false)); with_reducible rfl))); all_goals (intro hc; (try simp only [Bool.not_eq_true', Bool.not_eq_false'] at hc); (try (exact absurd hc Bool.noConfusion)); (first | have hq := dle_true hc | have hq := dlt_true hc | have hq := dle_false hc | have hq := dlt_false hc | skip); (try (exfalso; simp only [decide_eq_true_eq, decide_eq_false_iff_not] at hc; first | omega | (have := hk.out; omega)))))
       | ((first | apply z40 | apply z41 | (apply z42; (simp only [seval, push_cast, *]; with_reducible rfl))); (simp only [seval, push_cast, *]; with_reducible rfl); all_goals (first | (simp only [seval, push_cast, *] <;> fail) | (simp only [seval, push_cast] <;> fail) | (rw [frz_pure rfl] <;> (simp [*] <;> fail))))
      exact ⟨ws ++ [p.width], hsn.out.symm, by simp only [List.length_append, List.length_singleton, cellsNetl], by (first | (simp only [seval, push_cast, *]; done) | (simp only [seval, push_cast, *]; rfl)), by simp [push_cast], by (first | (simp only [seval, push_cast, *]; done) | (simp only [seval, push_cast, *]; rfl))⟩
    · rintro ρ H' ⟨ws, hws, rfl, h1, h3, h11⟩
      rw [List.take_length] at hws
      replace hws : Kp (ws = n.inputs.map (·.width) ++ n.regs.map (·.width)) := ⟨hws⟩
      conv => arg 3; whnf
      repeat' first
       | apply z1 | apply z2
       | apply z3 | apply z4 | apply z5 | apply z6 | apply z7 | apply z8 | apply z9 | apply z10 | apply z11 | apply z12 | apply z13 | apply z14 | apply z15 | apply z18 | apply z19 | apply z20 | apply z21 | apply z22 | apply z23 | (apply z16; rfl) | (apply z17; decide)
       | ((first | apply z30 | apply z31 | ((first | apply z32 | apply z33); (simp only [seval, push_cast, *] <;> fail))); (simp only [seval, push_cast, *]; with_reducible rfl); try exact of_decide_eq_true rfl)
       | ((first | apply z34 | apply z35); (simp only [seval, push_cast, *] <;> fail); try exact of_decide_eq_true rfl)
       | ((first | (apply z24; (simp only [seval, push_cast, *]; with_reducible rfl)) | (apply z36; (simp only [seval, push_cast, *]; (fail_if_success (show _ = some true)); (fail_if_success (show _ = some false)); with_reducible rfl))); all_goals (intro hc; (try simp only [Bool.not_eq_true', Bool.not_eq_false'] at hc); (try (exact absurd hc Bool.noConfusion)); (first | have hq := dle_true hc | have hq := dlt_true hc | have hq := dle_false hc | have hq := dlt_false hc | skip); (try (exfalso; simp only [decide_eq_true_eq, decide_eq_false_iff_not] at hc; first | omega | (have := hk.out; omega)))))
       | ((first | apply z40 | apply z41 | (apply z42; (simp only [seval, push_cast, *]; with_reducible rfl))); (simp only [seval, push_cast, *]; with_reducible rfl); all_goals (first | (simp only [seval, push_cast, *] <;> fail) | (simp only [seval, push_cast] <;> fail) | (rw [frz_pure rfl] <;> (simp [*] <;> fail))))
      exact ⟨ws, hws.out, by simp only [cellsNetl], by (first | (simp only [seval, push_cast, *]; done) | (simp only [seval, push_cast, *]; rfl)), rfl⟩
  repeat' first
   | apply z1 | apply z2
   | apply z3 | apply z4 | apply z5 | apply z6 | apply z7 | apply z8 | apply z9 | apply z10 | apply z11 | apply z12 | apply z13 | apply z14 | apply z15 | apply z18 | apply z19 | apply z20 | apply z21 | apply z22 | apply z23 | (apply z16; rfl) | (apply z17; decide)
   | ((first | apply z30 | apply z31 | ((first | apply z32 | apply z33); (simp only [seval, push_cast, *] <;> fail))); (simp only [seval, push_cast, *]; with_reducible rfl); try exact of_decide_eq_true rfl)
   | ((first | apply z34 | apply z35); (simp only [seval, push_cast, *] <;> fail); try exact of_decide_eq_true rfl)
   | ((first | (apply z24; (simp only [seval, push_cast, *]; with_reducible rfl)) | (apply z36; (simp only [seval, push_cast, *]; (fail_if_success (show _ = some true)); (fail_if_success (show _ = some false)); with_reducible rfl))); all_goals (intro hc; (try simp only [Bool.not_eq_true', Bool.not_eq_false'] at hc); (try (exact absurd hc Bool.noConfusion)); (first | have hq := dle_true hc | have hq := dlt_true hc | have hq := dle_false hc | have hq := dlt_false hc | skip); (try (exfalso; simp only [decide_eq_true_eq, decide_eq_false_iff_not] at hc; first | omega | (have := hk.out; omega)))))
   | ((first | apply z40 | apply z41 | (apply z42; (simp only [seval, push_cast, *]; with_reducible rfl))); (simp only [seval, push_cast, *]; with_reducible rfl); all_goals (first | (simp only [seval, push_cast, *] <;> fail) | (simp only [seval, push_cast] <;> fail) | (rw [frz_pure rfl] <;> (simp [*] <;> fail))))
  refine lp_then (lp_any (c := loopAt Tryz.f87 0) rfl (key0 _ _ 0 _ _ (by omega) ⟨[], rfl, rfl, by (first | (simp only [seval, push_cast, *]; done) | (simp only [seval, push_cast, *]; rfl)), by (first | (simp only [seval, push_cast, *]; done) | (simp only [seval, push_cast, *]; rfl)), by (first | (simp only [seval, push_cast, *]; done) | (simp only [seval, push_cast, *]; rfl))⟩)) ?_
  rintro ex ρ' H' ⟨ws, hws, rfl, h3, rfl⟩ hf
  have f1 := hf 1 rfl
  simp only [seval, push_cast] at f1
  clear key0 hf
  replace hws : Kp (ws = n.inputs.map (·.width)) := ⟨hws⟩
  repeat' first
   | apply z1 | apply z2
   | apply z3 | apply z4 | apply z5 | apply z6 | apply z7 | apply z8 | apply z9 | apply z10 | apply z11 | apply z12 | apply z13 | apply z14 | apply z15 | apply z18 | apply z19 | apply z20 | apply z21 | apply z22 | apply z23 | (apply z16; rfl) | (apply z17; decide)
   | ((first | apply z30 | apply z31 | ((first | apply z32 | apply z33); (simp only [seval, push_cast, *] <;> fail))); (simp only [seval, push_cast, *]; with_reducible rfl); try exact of_decide_eq_true rfl)
   | ((first | apply z34 | apply z35); (simp only [seval, push_cast, *] <;> fail); try exact of_decide_eq_true rfl)
   | ((first | (apply z24; (simp only [seval, push_cast, *]; with_reducible rfl)) | (apply z36; (simp only [seval, push_cast, *]; (fail_if_success (show _ = some true)); (fail_if_success (show _ = some false)); with_reducible rfl))); all_goals (intro hc; (try simp only [Bool.not_eq_true', Bool.not_eq_false'] at hc); (try (exact absurd hc Bool.noConfusion)); (first | have hq := dle_true hc | have hq := dlt_true hc | have hq := dle_false hc | have hq := dlt_false hc | skip); (try (exfalso; simp only [decide_eq_true_eq, decide_eq_false_iff_not] at hc; first | omega | (have := hk.out; omega)))))
   | ((first | apply z40 | apply z41 | (apply z42; (simp only [seval, push_cast, *]; with_reducible rfl))); (simp only [seval, push_cast, *]; with_reducible rfl); all_goals (first | (simp only [seval, push_cast, *] <;> fail) | (simp only [seval, push_cast] <;> fail) | (rw [frz_pure rfl] <;> (simp [*] <;> fail))))
  refine lp_then (lp_any (c := loopAt Tryz.f87 1) rfl (key1 _ _ 0 _ _ (by omega) ⟨ws, by simp [hws.out], rfl, by (first | (simp only [seval, push_cast, *]; done) | (simp only [seval, push_cast, *]; rfl)), by (first | (simp only [seval, push_cast, *]; done) | (simp only [seval, push_cast, *]; rfl)), by (first | (simp only [seval, push_cast, *]; done) | (simp only [seval, push_cast, *]; rfl))⟩)) ?_
  rintro ex ρ' H' ⟨ws, rfl, rfl, h3, rfl⟩ -
  clear key1
  repeat' first
   | apply z1 | apply z2
   | apply z3 | apply z4 | apply z5 | apply z6 | apply z7 | apply z8 | apply z9 | apply z10 | apply z11 | apply z12 | apply z13 | apply z14 | apply z15 | apply z18 | apply z19 | apply z20 | apply z21 | apply z22 | apply z23 | (apply z16; rfl) | (apply z17; decide)
   | ((first | apply z30 | apply z31 | ((first | apply z32 | apply z33); (simp only [seval, push_cast, *] <;> fail))); (simp only [seval, push_cast, *]; with_reducible rfl); try exact of_decide_eq_true rfl)
   | ((first | apply z34 | apply z35); (simp only [seval, push_cast, *] <;> fail); try exact of_decide_eq_true rfl)
   | ((first | (apply z24; (simp only [seval, push_cast, *]; with_reducible rfl)) | (apply z36; (simp only [seval, push_cast, *]; (fail_if_success (show _ = some true)); (fail_if_success (show _ = some false)); with_reducible rfl))); all_goals (intro hc; (try simp only [Bool.not_eq_true', Bool.not_eq_false'] at hc); (try (exact absurd hc Bool.noConfusion)); (first | have hq := dle_true hc | have hq := dlt_true hc | have hq := dle_false hc | have hq := dlt_false hc | skip); (try (exfalso; simp only [decide_eq_true_eq, decide_eq_false_iff_not] at hc; first | omega | (have := hk.out; omega)))))
   | ((first | apply z40 | apply z41 | (apply z42; (simp only [seval, push_cast, *]; with_reducible rfl))); (simp only [seval, push_cast, *]; with_reducible rfl); all_goals (first | (simp only [seval, push_cast, *] <;> fail) | (simp only [seval, push_cast] <;> fail) | (rw [frz_pure rfl] <;> (simp [*] <;> fail))))

theorem bs_isCond (bs : List Nat) (H : Heap) (nodes : List Node) (i : Int) (hn : nodes.length ≤ 1000000) : callw X bs 88 [.list (nodes.map encNode), .int .i64 i] H = some (.bool (isNodeL nodes i && decide (widthL nodes i = 1)), H) := by
  refine call_at (rs := [.tmp 4]) (N := 16) (fn := Tryz.f88) xk88 xf88 rfl rfl rfl (by simp only [seval, push_cast, List.map_cons, List.map_nil, V.norm, norm1]; rfl) ?_
  have hin := fun bs H => bs_isNode bs H nodes i hn
  cases h : isNodeL nodes i with
  | false =>
    repeat' first
     | apply z1 | apply z2
     | apply z3 | apply z4 | apply z5 | apply z6 | apply z7 | apply z8 | apply z9 | apply z10 | apply z11 | apply z12 | apply z13 | apply z14 | apply z15 | apply z18 | apply z19 | apply z20 | apply z21 | apply z22 | apply z23 | (apply z16; rfl) | (apply z17; decide)
     | ((first | apply z30 | apply z31 | ((first | apply z32 | apply z33); (simp only [seval, push_cast, *] <;> fail))); (simp only [seval, push_cast, *]; with_reducible rfl); try exact of_decide_eq_true rfl)
     | ((first | apply z34 | apply z35); (simp only [seval, push_cast, *] <;> fail); try exact of_decide_eq_true rfl)
     | ((first | (apply z24; (simp only [seval, push_cast, *]; with_reducible rfl)) | (apply z36; (simp only [seval, push_cast, *]; (fail_if_success (show _ = some true)); (fail_if_success (show _ = some false)); with_reducible rfl))); all_goals (intro hc; (try simp only [Bool.not_eq_true', Bool.not_eq_false'] at hc); (try (exact absurd hc Bool.noConfusion)); (first | have hq := dle_true hc | have hq := dlt_true hc | have hq := dle_false hc | have hq := dlt_false hc | skip); (try (exfalso; simp only [decide_eq_true_eq, decide_eq_false_iff_not] at hc; first | omega | (have := hk.out; omega)))))
     | ((first | apply z40 | apply z41 | (apply z42; (simp only [seval, push_cast, *]; with_reducible rfl))); (simp only [seval, push_cast, *]; with_reducible rfl); all_goals (first | (simp only [seval, push_cast, *] <;> fail) | (simp only [seval, push_cast] <;> fail) | (rw [frz_pure rfl] <;> (simp [*] <;> fail))))
  | true =>
    obtain ⟨m, rfl, hlt⟩ : ∃ m : Nat, i = m ∧ m < nodes.length := by
      simp only [isNodeL, Bool.and_eq_true, decide_eq_true_eq] at h
      exact ⟨i.toNat, by omega, by omega⟩
    have hget : nodes[m]? = some nodes[m] := by simp [hlt]
    simp only [widthL, Int.toNat_natCast, hget]
    generalize nodes[m] = y at hget
    repeat' first
     | apply z1 | apply z2
     | apply z3 | apply z4 | apply z5 | apply z6 | apply z7 | apply z8 | apply z9 | apply z10 | apply z11 | apply z12 | apply z13 | apply z14 | apply z15 | apply z18 | apply z19 | apply z20 | apply z21 | apply z22 | apply z23 | (apply z16; rfl) | (apply z17; decide)
     | ((first | apply z30 | apply z31 | ((first | apply z32 | apply z33); (simp only [seval, push_cast, *] <;> fail))); (simp only [seval, push_cast, *]; with_reducible rfl); try exact of_decide_eq_true rfl)
     | ((first | apply z34 | apply z35); (simp only [seval, push_cast, *] <;> fail); try exact of_decide_eq_true rfl)
     | ((first | (apply z24; (simp only [seval, push_cast, *]; with_reducible rfl)) | (apply z36; (simp only [seval, push_cast, *]; (fail_if_success (show _ = some true)); (fail_if_success (show _ = some false)); with_reducible rfl))); all_goals (intro hc; (try simp only [Bool.not_eq_true', Bool.not_eq_false'] at hc); (try (exact absurd hc Bool.noConfusion)); (first | have hq := dle_true hc | have hq := dlt_true hc | have hq := dle_false hc | have hq := dlt_false hc | skip); (try (exfalso; simp only [decide_eq_true_eq, decide_eq_false_iff_not] at hc; first | omega | (have := hk.out; omega)))))
     | ((first | apply z40 | apply z41 | (apply z42; (simp only [seval, push_cast, *]; with_reducible rfl))); (simp only [seval, push_cast, *]; with_reducible rfl); all_goals (first | (simp only [seval, push_cast, *] <;> fail) | (simp only [seval, push_cast] <;> fail) | (rw [frz_pure rfl] <;> (simp [*] <;> fail))))

end Go.E
