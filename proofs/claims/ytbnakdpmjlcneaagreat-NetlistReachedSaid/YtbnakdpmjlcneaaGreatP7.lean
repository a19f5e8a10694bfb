/- Contracts of the references' base, in E: ports, outputs. Own work. -/
import Derived.Test.YtbnakdpmjlcneaaGreatP6
import Derived.Test.YtbnakdpmjlcneaaGreatP5
import Derived.KernelRfl
import Derived.Test.YtbnakdpmjlcneaaGreatP3
set_option linter.all false
namespace Go.E
open Go.Proofs
set_option maxRecDepth 100000
set_option maxHeartbeats 4000000

theorem bs_nodesErr (bs : List Nat) (H : Heap) (leaves : List Int) (nodes : List Node) (hl : leaves.length ≤ 1000000) (hn : nodes.length ≤ 1000000) (hal : ∀ x ∈ nodes, x.args.length ≤ 1000000) : callw X bs 86 [.list (leaves.map (.int .i64)), .list (nodes.map encNode)] H = some (.tuple [.int .i64 (nodesErrR leaves nodes).1, .int .i64 (nodesErrR leaves nodes).2], H) := by
  refine call_at (rs := [.tmp 4, .tmp 5]) (N := 25) (fn := Tryz.f86) xk86 xf86 rfl rfl rfl (by simp only [seval, push_cast, List.map_cons, List.map_nil, V.norm, norm1]; rfl) ?_
  have key : ∀ (R : Int × Int) (bs : List Nat) i ρ H', i ≤ nodes.length → (H' = H ∧ ρ 0 = .list (leaves.map (.int .i64)) ∧ ρ 1 = .list (nodes.map encNode) ∧ ρ 6 = .int .i64 i ∧ Kp (eachP (nodeErrS leaves nodes) i (nodes.drop i) = R)) →
      Lp X ⟨25, bs⟩ (loopAt Tryz.f86 0) ρ H' fun ex ρ' H' => H' = H ∧ ((ex = .exit 0 ∧ R = (0, 0)) ∨ (ex = .ret ∧ ρ' 4 = .int .i64 R.1 ∧ ρ' 5 = .int .i64 R.2)) := by
    intro R bs
    refine loop_up ?_ ?_
    · rintro i ρ H' hi ⟨rfl, h0, h1, h6, hR⟩
      have hget : nodes[i]? = some nodes[i] := by simp [hi]
      have hne := fun bs H => bs_nodeErr bs H leaves nodes i nodes[i] hget hl hn (hal _ (List.getElem_mem hi))
      have hw := add1 i nodes.length hi hn
      replace hR := hR.out
      rw [drop_cons hget, eachP] at hR
      generalize nodeErrS leaves nodes i nodes[i] = e at hne hR
      replace hR : Kp ((if e ≠ 0 then ((i : Int), e) else eachP (nodeErrS leaves nodes) (i + 1) (nodes.drop (i + 1))) = R) := ⟨hR⟩
      clear hget hal
      conv => arg 3; whnf
      all_goals try (refine zs ?_; repeat' first | apply zs0 | apply zs2 | (intro hc; try have hq := dq hc))
      · have hc : e ≠ 0 := by simpa using hc
        rw [← hR.out, if_pos hc]
        exact ⟨rfl, .inr ⟨rfl, by (simp only [seval, push_cast, *] <;> rfl), by (simp only [seval, push_cast, *] <;> rfl)⟩⟩
      · have hc : e = 0 := by simpa using hc
        exact ⟨rfl, by (simp only [seval, push_cast, *] <;> rfl), by (simp only [seval, push_cast, *] <;> rfl), by (simp only [seval, push_cast, *] <;> rfl), ⟨by rw [← hR.out, if_neg (by simp [hc])]⟩⟩
    · rintro ρ H' ⟨rfl, h0, h1, h6, hR⟩
      replace hR := hR.out
      rw [List.drop_length, eachP] at hR
      replace hR : Kp ((0, 0) = R) := ⟨hR⟩
      clear hal
      conv => arg 3; whnf
      all_goals try (refine zs ?_; repeat' first | apply zs0 | apply zs2 | (intro hc; try have hq := dq hc))
      exact ⟨rfl, .inl ⟨rfl, hR.out.symm⟩⟩
  clear hal
  unfold nodesErrR
  by_cases h : 400 < nodes.length
  · rw [if_pos h]
    have d : (400 : Int) < nodes.length := by omega
    clear key
    all_goals try (refine zs ?_; repeat' first | apply zs0 | apply zs2 | (intro hc; try have hq := dq hc))
  rw [if_neg h]
  have d : decide ((400 : Int) < nodes.length) = false := decide_eq_false (by omega)
  all_goals try (refine zs ?_; repeat' first | apply zs0 | apply zs2 | (intro hc; try have hq := dq hc))
  refine lp_then (lp_any (c := loopAt Tryz.f86 0) rfl (key (eachP (nodeErrS leaves nodes) 0 nodes) _ 0 _ _ (by omega) ⟨rfl, by (simp only [seval, push_cast, *] <;> rfl), by (simp only [seval, push_cast, *] <;> rfl), by (simp only [seval, push_cast, *] <;> rfl), ⟨rfl⟩⟩)) ?_
  clear key
  rintro ex ρ' H' ⟨rfl, ⟨rfl, h2⟩ | ⟨rfl, h2, h3⟩⟩ -
  · rw [h2]
    all_goals try (refine zs ?_; repeat' first | apply zs0 | apply zs2 | (intro hc; try have hq := dq hc))
  · all_goals try (refine zs ?_; repeat' first | apply zs0 | apply zs2 | (intro hc; try have hq := dq hc))

/-- Whether an earlier one has this name (bs_portDup). -/
theorem bs_portDup (bs : List Nat) (H : Heap) (l : List Port) (i : Nat) (p : Port) (hp : l[i]? = some p) (hl : l.length ≤ 1000000) (R : Bool) :
    ∀ j ρ H', j ≤ i → (H' = H ∧ ρ 0 = .list (l.map encPort) ∧ ρ 4 = .int .i64 i ∧ ρ 5 = .int .i64 j ∧ Kp (((l.take i).drop j).any (fun q => decide (q.name = p.name)) = R)) →
      Lp X ⟨48, bs⟩ (loopAt Tryz.f83 1) ρ H' fun ex ρ' H' => H' = H ∧ ((ex = .exit 2 ∧ R = false) ∨ (ex = .ret ∧ ρ' 2 = .int .i64 i ∧ ρ' 3 = .int .i64 5 ∧ R = true)) := by
  have hi := (List.getElem?_eq_some_iff.1 hp).1
  refine loop_up ?_ ?_
  · rintro j ρ H' hj ⟨rfl, h0, h4, h5, hR⟩
    have hget : l[j]? = some l[j] := by simp [show j < l.length by omega]
    have hget2 : (l.take i)[j]? = some l[j] := by rw [List.getElem?_take, if_pos hj]; exact hget
    generalize l[j] = q at hget hget2
    have hw := add1 j i hj (by omega)
    replace hR := hR.out
    rw [drop_cons hget2, List.any_cons] at hR
    replace hR : Kp ((decide (q.name = p.name) || ((l.take i).drop (j + 1)).any (fun q => decide (q.name = p.name))) = R) := ⟨hR⟩
    clear hget2
    have hlt : (j : Int) < i := by omega
    conv => arg 3; whnf
    repeat' first
     | (apply z50 (id := 11) (ord := [0, 1, 2, 3, 4, 5, 6, 7, 8, 9, 10]) <;> first | kernel_rfl | skip)
     | (refine zs ?_; repeat' first | apply zs0 | apply zs2 | (intro hc; try have hq := dq hc)) | fail
    all_goals replace hR := hR.out
    · rw [hc] at hR
      exact ⟨rfl, .inr ⟨rfl, by (simp only [seval, push_cast, *] <;> rfl), by (simp only [seval, push_cast, *] <;> rfl), by rw [← hR]; rfl⟩⟩
    · rw [hc] at hR
      exact ⟨rfl, by (simp only [seval, push_cast, *] <;> rfl), by (simp only [seval, push_cast, *] <;> rfl), by (simp only [seval, push_cast, *] <;> rfl), ⟨by rw [← hR]; rfl⟩⟩
  · rintro ρ H' ⟨rfl, h0, h4, h5, hR⟩
    replace hR := hR.out
    rw [List.drop_of_length_le (by rw [List.length_take]; omega), List.any_nil] at hR
    replace hR : Kp (false = R) := ⟨hR⟩
    conv => arg 3; whnf
    repeat' first
     | (apply z50 (id := 11) (ord := [0, 1, 2, 3, 4, 5, 6, 7, 8, 9, 10]) <;> first | kernel_rfl | skip)
     | (refine zs ?_; repeat' first | apply zs0 | apply zs2 | (intro hc; try have hq := dq hc)) | fail
    exact ⟨rfl, .inl ⟨rfl, hR.out.symm⟩⟩

/-- Whether an earlier one has this name (bs_outDup). -/
theorem bs_outDup (bs : List Nat) (H : Heap) (l : List Outp) (i : Nat) (p : Outp) (hp : l[i]? = some p) (hl : l.length ≤ 1000000) (R : Bool) :
    ∀ j ρ H', j ≤ i → (H' = H ∧ ρ 1 = .list (l.map encOutp) ∧ ρ 6 = .int .i64 i ∧ ρ 7 = .int .i64 j ∧ Kp (((l.take i).drop j).any (fun q => decide (q.name = p.name)) = R)) →
      Lp X ⟨51, bs⟩ (loopAt Tryz.f90 1) ρ H' fun ex ρ' H' => H' = H ∧ ((ex = .exit 2 ∧ R = false) ∨ (ex = .ret ∧ ρ' 4 = .int .i64 i ∧ ρ' 5 = .int .i64 5 ∧ R = true)) := by
  have hi := (List.getElem?_eq_some_iff.1 hp).1
  refine loop_up ?_ ?_
  · rintro j ρ H' hj ⟨rfl, h0, h4, h5, hR⟩
    have hget : l[j]? = some l[j] := by simp [show j < l.length by omega]
    have hget2 : (l.take i)[j]? = some l[j] := by rw [List.getElem?_take, if_pos hj]; exact hget
    generalize l[j] = q at hget hget2
    have hw := add1 j i hj (by omega)
    replace hR := hR.out
    rw [drop_cons hget2, List.any_cons] at hR
    replace hR : Kp ((decide (q.name = p.name) || ((l.take i).drop (j + 1)).any (fun q => decide (q.name = p.name))) = R) := ⟨hR⟩
    clear hget2
    have hlt : (j : Int) < i := by omega
    conv => arg 3; whnf
    repeat' first
     | (apply z50 (id := 11) (ord := [0, 1, 2, 3, 4, 5, 6, 7, 8, 9, 10]) <;> first | kernel_rfl | skip)
     | (refine zs ?_; repeat' first | apply zs0 | apply zs2 | (intro hc; try have hq := dq hc)) | fail
    all_goals replace hR := hR.out
    · rw [hc] at hR
      exact ⟨rfl, .inr ⟨rfl, by (simp only [seval, push_cast, *] <;> rfl), by (simp only [seval, push_cast, *] <;> rfl), by rw [← hR]; rfl⟩⟩
    · rw [hc] at hR
      exact ⟨rfl, by (simp only [seval, push_cast, *] <;> rfl), by (simp only [seval, push_cast, *] <;> rfl), by (simp only [seval, push_cast, *] <;> rfl), ⟨by rw [← hR]; rfl⟩⟩
  · rintro ρ H' ⟨rfl, h0, h4, h5, hR⟩
    replace hR := hR.out
    rw [List.drop_of_length_le (by rw [List.length_take]; omega), List.any_nil] at hR
    replace hR : Kp (false = R) := ⟨hR⟩
    conv => arg 3; whnf
    repeat' first
     | (apply z50 (id := 11) (ord := [0, 1, 2, 3, 4, 5, 6, 7, 8, 9, 10]) <;> first | kernel_rfl | skip)
     | (refine zs ?_; repeat' first | apply zs0 | apply zs2 | (intro hc; try have hq := dq hc)) | fail
    exact ⟨rfl, .inl ⟨rfl, hR.out.symm⟩⟩

end Go.E
/- Contracts of the references' base, in E: ports, outputs, leaves. Own work. -/
namespace Go.E
open Go.Proofs
set_option maxRecDepth 100000
set_option maxHeartbeats 4000000

theorem imp4 {b c d : Bool} (e1 e2 e3 : Int) : (if b = false then e1 else if c = true then e2 else if d = false then e3 else (0 : Int)) = if b = true then (if c = false then (if d = true then 0 else e3) else e2) else e1 := by
  cases b <;> cases c <;> cases d <;> rfl

theorem bs_isNode (bs : List Nat) (H : Heap) (nodes : List Node) (i : Int) (hn : nodes.length ≤ 1000000) : callw X bs 89 [.list (nodes.map encNode), .int .i64 i] H = some (.bool (isNodeL nodes i), H) := by
  refine call_at (rs := [.tmp 4]) (N := 10) (fn := Tryz.f89) xk89 xf89 rfl rfl rfl (by simp only [seval, push_cast, List.map_cons, List.map_nil, V.norm, norm1]; rfl) ?_
  have hw := sub1 nodes.length hn
  unfold isNodeL
  all_goals try (refine zs ?_; repeat' first | apply zs0 | apply zs2 | (intro hc; try have hq := dq hc))
attribute [push_cast] bs_isNode

theorem bs_portsErr (bs : List Nat) (H : Heap) (l : List Port) (hl : l.length ≤ 1000000) (hs : ∀ p ∈ l, p.name.size ≤ 1000000) : callw X bs 83 [.list (l.map encPort)] H = some (.tuple [.int .i64 (portsErrR l).1, .int .i64 (portsErrR l).2], H) := by
  refine call_at (rs := [.tmp 2, .tmp 3]) (N := 48) (fn := Tryz.f83) xk83 xf83 rfl rfl rfl (by simp only [seval, push_cast, List.map_cons, List.map_nil, V.norm, norm1]; rfl) ?_
  have key : ∀ (R : Int × Int) (bs : List Nat) i ρ H', i ≤ l.length → (H' = H ∧ ρ 0 = .list (l.map encPort) ∧ ρ 4 = .int .i64 i ∧ Kp (eachP (portErrR l) i (l.drop i) = R)) →
      Lp X ⟨48, bs⟩ (loopAt Tryz.f83 0) ρ H' fun ex ρ' H' => H' = H ∧ ((ex = .exit 0 ∧ R = (0, 0)) ∨ (ex = .ret ∧ ρ' 2 = .int .i64 R.1 ∧ ρ' 3 = .int .i64 R.2)) := by
    intro R bs
    refine loop_up ?_ ?_
    · rintro i ρ H' hi ⟨rfl, h0, h4, hR⟩
      have hget : l[i]? = some l[i] := by simp [hi]
      have hnm := fun bs H => bs_isName bs H l[i].name (hs _ (List.getElem_mem hi))
      have hw := add1 i l.length hi hl
      replace hR := hR.out
      rw [drop_cons hget, eachP] at hR
      have hin := fun bs ρ => bs_portDup bs H' l i l[i] hget hl ((l.take i).any (fun q => decide (q.name = l[i].name))) 0 ρ
      generalize l[i] = p at hget hnm hR hin
      clear hs
      cases hN : isNameS p.name with
      | false =>
        have he : portErrR l i p = 4 := by unfold portErrR; rw [if_pos hN]
        rw [he, if_pos (by decide)] at hR
        replace hR : Kp (((i : Int), (4 : Int)) = R) := ⟨hR⟩
        clear he
        clear hin
        conv => arg 3; whnf
        repeat' first
         | (apply z50 (id := 11) (ord := [0, 1, 2, 3, 4, 5, 6, 7, 8, 9, 10]) <;> first | kernel_rfl | skip)
         | (refine zs ?_; repeat' first | apply zs0 | apply zs2 | (intro hc; try have hq := dq hc)) | fail
        exact ⟨rfl, .inr ⟨rfl, by rw [← hR.out]; (simp only [seval, push_cast, *] <;> rfl), by rw [← hR.out]; (simp only [seval, push_cast, *] <;> rfl)⟩⟩
      | true =>
      replace hR := Kp.mk hR
      conv => arg 3; whnf
      repeat' first
       | (apply z50 (id := 11) (ord := [0, 1, 2, 3, 4, 5, 6, 7, 8, 9, 10]) <;> first | kernel_rfl | skip)
       | (refine zs ?_; repeat' first | apply zs0 | apply zs2 | (intro hc; try have hq := dq hc)) | fail
      refine lp_then (lp_any (c := loopAt Tryz.f83 1) rfl (hin _ _ _ (by omega) ⟨rfl, by (simp only [seval, push_cast, *] <;> rfl), by (simp only [seval, push_cast, *] <;> rfl), by (simp only [seval, push_cast, *] <;> rfl), ⟨rfl⟩⟩)) ?_
      clear hin
      rintro ex ρ' H2 ⟨rfl, ⟨rfl, h2⟩ | ⟨rfl, h2, h3, h9⟩⟩ hf
      · have f0 := hf 0 rfl
        have f4 := hf 4 rfl
        simp only [seval, push_cast] at f0 f4
        rw [h0] at f0
        rw [h4] at f4
        replace hR := hR.out
        clear hf h0 h4
        cases hW : isW p.width with
        | false =>
          have he : portErrR l i p = 2 := by unfold portErrR; rw [if_neg (by simp [hN]), if_neg (by simp only [h2]; decide), if_pos hW]
          rw [he, if_pos (by decide)] at hR
          replace hR : Kp (((i : Int), (2 : Int)) = R) := ⟨hR⟩
          clear he h2
          unfold isW at hW
          repeat' first
           | (apply z50 (id := 11) (ord := [0, 1, 2, 3, 4, 5, 6, 7, 8, 9, 10]) <;> first | kernel_rfl | skip)
           | (refine zs ?_; repeat' first | apply zs0 | apply zs2 | (intro hc; try have hq := dq hc)) | fail
          exact ⟨rfl, .inr ⟨rfl, by rw [← hR.out]; (simp only [seval, push_cast, *] <;> rfl), by rw [← hR.out]; (simp only [seval, push_cast, *] <;> rfl)⟩⟩
        | true =>
          have he : portErrR l i p = 0 := by unfold portErrR; rw [if_neg (by simp [hN]), if_neg (by simp only [h2]; decide), if_neg (by simp [hW])]
          rw [he, if_neg (by decide)] at hR
          replace hR := Kp.mk hR
          clear he h2
          unfold isW at hW
          repeat' first
           | (apply z50 (id := 11) (ord := [0, 1, 2, 3, 4, 5, 6, 7, 8, 9, 10]) <;> first | kernel_rfl | skip)
           | (refine zs ?_; repeat' first | apply zs0 | apply zs2 | (intro hc; try have hq := dq hc)) | fail
          exact ⟨rfl, by (simp only [seval, push_cast, *] <;> rfl), by (simp only [seval, push_cast, *] <;> rfl), hR⟩
      · replace hR := hR.out
        have he : portErrR l i p = 5 := by unfold portErrR; rw [if_neg (by simp [hN]), if_pos h9]
        rw [he, if_pos (by decide)] at hR
        replace hR : Kp (((i : Int), (5 : Int)) = R) := ⟨hR⟩
        clear he h9
        repeat' first
         | (apply z50 (id := 11) (ord := [0, 1, 2, 3, 4, 5, 6, 7, 8, 9, 10]) <;> first | kernel_rfl | skip)
         | (refine zs ?_; repeat' first | apply zs0 | apply zs2 | (intro hc; try have hq := dq hc)) | fail
        exact ⟨rfl, .inr ⟨rfl, by rw [← hR.out]; (simp only [seval, push_cast, *] <;> rfl), by rw [← hR.out]; (simp only [seval, push_cast, *] <;> rfl)⟩⟩
    · rintro ρ H' ⟨rfl, h0, h4, hR⟩
      replace hR := hR.out
      rw [List.drop_length, eachP] at hR
      replace hR : Kp ((0, 0) = R) := ⟨hR⟩
      clear hs
      conv => arg 3; whnf
      repeat' first
       | (apply z50 (id := 11) (ord := [0, 1, 2, 3, 4, 5, 6, 7, 8, 9, 10]) <;> first | kernel_rfl | skip)
       | (refine zs ?_; repeat' first | apply zs0 | apply zs2 | (intro hc; try have hq := dq hc)) | fail
      exact ⟨rfl, .inl ⟨rfl, hR.out.symm⟩⟩
  clear hs
  unfold portsErrR
  by_cases h : 12 < l.length
  · rw [if_pos h]
    have d : (12 : Int) < l.length := by omega
    clear key
    repeat' first
     | (apply z50 (id := 11) (ord := [0, 1, 2, 3, 4, 5, 6, 7, 8, 9, 10]) <;> first | kernel_rfl | skip)
     | (refine zs ?_; repeat' first | apply zs0 | apply zs2 | (intro hc; try have hq := dq hc)) | fail
  rw [if_neg h]
  have d : decide ((12 : Int) < l.length) = false := decide_eq_false (by omega)
  repeat' first
   | (apply z50 (id := 11) (ord := [0, 1, 2, 3, 4, 5, 6, 7, 8, 9, 10]) <;> first | kernel_rfl | skip)
   | (refine zs ?_; repeat' first | apply zs0 | apply zs2 | (intro hc; try have hq := dq hc)) | fail
  refine lp_then (lp_any (c := loopAt Tryz.f83 0) rfl (key (eachP (portErrR l) 0 l) _ 0 _ _ (by omega) ⟨rfl, by (simp only [seval, push_cast, *] <;> rfl), by (simp only [seval, push_cast, *] <;> rfl), ⟨rfl⟩⟩)) ?_
  clear key
  rintro ex ρ' H' ⟨rfl, ⟨rfl, h2⟩ | ⟨rfl, h2, h3⟩⟩ -
  · rw [h2]
    repeat' first
     | (apply z50 (id := 11) (ord := [0, 1, 2, 3, 4, 5, 6, 7, 8, 9, 10]) <;> first | kernel_rfl | skip)
     | (refine zs ?_; repeat' first | apply zs0 | apply zs2 | (intro hc; try have hq := dq hc)) | fail
  · repeat' first
     | (apply z50 (id := 11) (ord := [0, 1, 2, 3, 4, 5, 6, 7, 8, 9, 10]) <;> first | kernel_rfl | skip)
     | (refine zs ?_; repeat' first | apply zs0 | apply zs2 | (intro hc; try have hq := dq hc)) | fail

end Go.E
/- Contracts of the references' base, in E: outputs, leaves. Own work. -/
namespace Go.E
open Go.Proofs
set_option maxRecDepth 100000
set_option maxHeartbeats 4000000

theorem bs_outsErr (bs : List Nat) (H : Heap) (nodes : List Node) (l : List Outp) (hn : nodes.length ≤ 1000000) (hl : l.length ≤ 1000000) (hs : ∀ p ∈ l, p.name.size ≤ 1000000) : callw X bs 90 [.list (nodes.map encNode), .list (l.map encOutp)] H = some (.tuple [.int .i64 (outsErrR nodes l).1, .int .i64 (outsErrR nodes l).2], H) := by
  refine call_at (rs := [.tmp 4, .tmp 5]) (N := 51) (fn := Tryz.f90) xk90 xf90 rfl rfl rfl (by simp only [seval, push_cast, List.map_cons, List.map_nil, V.norm, norm1]; rfl) ?_
  have key : ∀ (R : Int × Int) (bs : List Nat) i ρ H', i ≤ l.length → (H' = H ∧ ρ 0 = .list (nodes.map encNode) ∧ ρ 1 = .list (l.map encOutp) ∧ ρ 6 = .int .i64 i ∧ Kp (eachP (outErrR nodes l) i (l.drop i) = R)) →
      Lp X ⟨51, bs⟩ (loopAt Tryz.f90 0) ρ H' fun ex ρ' H' => H' = H ∧ ((ex = .exit 0 ∧ R = (0, 0)) ∨ (ex = .ret ∧ ρ' 4 = .int .i64 R.1 ∧ ρ' 5 = .int .i64 R.2)) := by
    intro R bs
    refine loop_up ?_ ?_
    · rintro i ρ H' hi ⟨rfl, h0, h1, h6, hR⟩
      have hget : l[i]? = some l[i] := by simp [hi]
      have hnm := fun bs H => bs_isName bs H l[i].name (hs _ (List.getElem_mem hi))
      have hw := add1 i l.length hi hl
      replace hR := hR.out
      rw [drop_cons hget, eachP] at hR
      have hin := fun bs ρ => bs_outDup bs H' l i l[i] hget hl ((l.take i).any (fun q => decide (q.name = l[i].name))) 0 ρ
      generalize l[i] = p at hget hnm hR hin
      clear hs
      cases hN : isNameS p.name with
      | false =>
        have he : outErrR nodes l i p = 4 := by unfold outErrR; rw [if_pos hN]
        rw [he, if_pos (by decide)] at hR
        replace hR : Kp (((i : Int), (4 : Int)) = R) := ⟨hR⟩
        clear he
        clear hin
        conv => arg 3; whnf
        repeat' first
         | (apply z50 (id := 11) (ord := [0, 1, 2, 3, 4, 5, 6, 7, 8, 9, 10]) <;> first | kernel_rfl | skip)
         | (refine zs ?_; repeat' first | apply zs0 | apply zs2 | (intro hc; try have hq := dq hc)) | fail
        exact ⟨rfl, .inr ⟨rfl, by rw [← hR.out]; (simp only [seval, push_cast, *] <;> rfl), by rw [← hR.out]; (simp only [seval, push_cast, *] <;> rfl)⟩⟩
      | true =>
      replace hR := Kp.mk hR
      conv => arg 3; whnf
      repeat' first
       | (apply z50 (id := 11) (ord := [0, 1, 2, 3, 4, 5, 6, 7, 8, 9, 10]) <;> first | kernel_rfl | skip)
       | (refine zs ?_; repeat' first | apply zs0 | apply zs2 | (intro hc; try have hq := dq hc)) | fail
      refine lp_then (lp_any (c := loopAt Tryz.f90 1) rfl (hin _ _ _ (by omega) ⟨rfl, by (simp only [seval, push_cast, *] <;> rfl), by (simp only [seval, push_cast, *] <;> rfl), by (simp only [seval, push_cast, *] <;> rfl), ⟨rfl⟩⟩)) ?_
      clear hin
      rintro ex ρ' H2 ⟨rfl, ⟨rfl, h2⟩ | ⟨rfl, h2, h3, h9⟩⟩ hf
      · have f0 := hf 0 rfl
        have f1 := hf 1 rfl
        have f6 := hf 6 rfl
        simp only [seval, push_cast] at f0 f1 f6
        rw [h0] at f0
        rw [h1] at f1
        rw [h6] at f6
        replace hR := hR.out
        clear hf h0 h1 h6
        cases hW : isNodeL nodes p.node with
        | false =>
          have he : outErrR nodes l i p = 9 := by unfold outErrR; rw [if_neg (by simp [hN]), if_neg (by simp only [h2]; decide), if_pos hW]
          rw [he, if_pos (by decide)] at hR
          replace hR : Kp (((i : Int), (9 : Int)) = R) := ⟨hR⟩
          clear he h2
          repeat' first
           | (apply z50 (id := 11) (ord := [0, 1, 2, 3, 4, 5, 6, 7, 8, 9, 10]) <;> first | kernel_rfl | skip)
           | (refine zs ?_; repeat' first | apply zs0 | apply zs2 | (intro hc; try have hq := dq hc)) | fail
          exact ⟨rfl, .inr ⟨rfl, by rw [← hR.out]; (simp only [seval, push_cast, *] <;> rfl), by rw [← hR.out]; (simp only [seval, push_cast, *] <;> rfl)⟩⟩
        | true =>
          have he : outErrR nodes l i p = 0 := by unfold outErrR; rw [if_neg (by simp [hN]), if_neg (by simp only [h2]; decide), if_neg (by simp [hW])]
          rw [he, if_neg (by decide)] at hR
          replace hR := Kp.mk hR
          clear he h2
          repeat' first
           | (apply z50 (id := 11) (ord := [0, 1, 2, 3, 4, 5, 6, 7, 8, 9, 10]) <;> first | kernel_rfl | skip)
           | (refine zs ?_; repeat' first | apply zs0 | apply zs2 | (intro hc; try have hq := dq hc)) | fail
          exact ⟨rfl, by (simp only [seval, push_cast, *] <;> rfl), by (simp only [seval, push_cast, *] <;> rfl), by (simp only [seval, push_cast, *] <;> rfl), hR⟩
      · replace hR := hR.out
        have he : outErrR nodes l i p = 5 := by unfold outErrR; rw [if_neg (by simp [hN]), if_pos h9]
        rw [he, if_pos (by decide)] at hR
        replace hR : Kp (((i : Int), (5 : Int)) = R) := ⟨hR⟩
        clear he h9
        repeat' first
         | (apply z50 (id := 11) (ord := [0, 1, 2, 3, 4, 5, 6, 7, 8, 9, 10]) <;> first | kernel_rfl | skip)
         | (refine zs ?_; repeat' first | apply zs0 | apply zs2 | (intro hc; try have hq := dq hc)) | fail
        exact ⟨rfl, .inr ⟨rfl, by rw [← hR.out]; (simp only [seval, push_cast, *] <;> rfl), by rw [← hR.out]; (simp only [seval, push_cast, *] <;> rfl)⟩⟩
    · rintro ρ H' ⟨rfl, h0, h1, h6, hR⟩
      replace hR := hR.out
      rw [List.drop_length, eachP] at hR
      replace hR : Kp ((0, 0) = R) := ⟨hR⟩
      clear hs
      conv => arg 3; whnf
      repeat' first
       | (apply z50 (id := 11) (ord := [0, 1, 2, 3, 4, 5, 6, 7, 8, 9, 10]) <;> first | kernel_rfl | skip)
       | (refine zs ?_; repeat' first | apply zs0 | apply zs2 | (intro hc; try have hq := dq hc)) | fail
      exact ⟨rfl, .inl ⟨rfl, hR.out.symm⟩⟩
  clear hs
  unfold outsErrR
  by_cases h : 12 < l.length
  · rw [if_pos h]
    have d : (12 : Int) < l.length := by omega
    clear key
    repeat' first
     | (apply z50 (id := 11) (ord := [0, 1, 2, 3, 4, 5, 6, 7, 8, 9, 10]) <;> first | kernel_rfl | skip)
     | (refine zs ?_; repeat' first | apply zs0 | apply zs2 | (intro hc; try have hq := dq hc)) | fail
  rw [if_neg h]
  have d : decide ((12 : Int) < l.length) = false := decide_eq_false (by omega)
  repeat' first
   | (apply z50 (id := 11) (ord := [0, 1, 2, 3, 4, 5, 6, 7, 8, 9, 10]) <;> first | kernel_rfl | skip)
   | (refine zs ?_; repeat' first | apply zs0 | apply zs2 | (intro hc; try have hq := dq hc)) | fail
  refine lp_then (lp_any (c := loopAt Tryz.f90 0) rfl (key (eachP (outErrR nodes l) 0 l) _ 0 _ _ (by omega) ⟨rfl, by (simp only [seval, push_cast, *] <;> rfl), by (simp only [seval, push_cast, *] <;> rfl), by (simp only [seval, push_cast, *] <;> rfl), ⟨rfl⟩⟩)) ?_
  clear key
  rintro ex ρ' H' ⟨rfl, ⟨rfl, h2⟩ | ⟨rfl, h2, h3⟩⟩ -
  · rw [h2]
    repeat' first
     | (apply z50 (id := 11) (ord := [0, 1, 2, 3, 4, 5, 6, 7, 8, 9, 10]) <;> first | kernel_rfl | skip)
     | (refine zs ?_; repeat' first | apply zs0 | apply zs2 | (intro hc; try have hq := dq hc)) | fail
  · repeat' first
     | (apply z50 (id := 11) (ord := [0, 1, 2, 3, 4, 5, 6, 7, 8, 9, 10]) <;> first | kernel_rfl | skip)
     | (refine zs ?_; repeat' first | apply zs0 | apply zs2 | (intro hc; try have hq := dq hc)) | fail

end Go.E
/- Contracts of the references' base, in E: leaves, conditions. Own work. -/
namespace Go.E
open Go.Proofs
set_option maxRecDepth 100000
set_option maxHeartbeats 4000000

theorem bs_netLeaves (bs : List Nat) (H : Heap) (n : Netl) (hi : n.inputs.length ≤ 1000) (hr : n.regs.length ≤ 1000) : callw X bs 87 [encNetl n] H = some (.list ((leavesN n).map (.int .i64)), H) := by
  refine call_at (rs := [.tmp 2]) (N := 39) (fn := Tryz.f87) xk87 xf87 rfl rfl rfl (by simp only [seval, push_cast, List.map_cons, List.map_nil, V.norm, norm1]; rfl) ?_
  have key0 : ∀ (t : HObj) (bs : List Nat) i ρ H', i ≤ n.inputs.length → (∃ ws, ws = (n.inputs.take i).map (·.width) ∧ H' = H ++ [.cells (cellsNetl n), t, .tok ws.length] ∧ ρ 1 = .ptr H.length 0 ∧ ρ 3 = .tl (H.length + 2) (ws.map (.int .i64)) ∧ ρ 4 = .int .i64 i) →
      Lp X ⟨39, bs⟩ (loopAt Tryz.f87 0) ρ H' fun ex ρ' H' => ∃ ws, ws = n.inputs.map (·.width) ∧ H' = H ++ [.cells (cellsNetl n), t, .tok ws.length] ∧ ρ' 3 = .tl (H.length + 2) (ws.map (.int .i64)) ∧ ex = .exit 0 := by
    intro t bs
    refine loop_up ?_ ?_
    · rintro i ρ H' hlt ⟨ws, hws, rfl, h1, h3, h11⟩
      have hget : n.inputs[i]? = some n.inputs[i] := by simp [hlt]
      have htk : n.inputs.take (i + 1) = n.inputs.take i ++ [n.inputs[i]] := by rw [List.take_add_one, hget]; rfl
      generalize n.inputs[i] = p at hget htk
      have hlen : ws.length ≤ 2000 := by rw [hws]; simp; omega
      have hroom := room8 ws.length (by omega)
      have hw := add1 i n.inputs.length hlt (by omega)
      have hsn : Kp ((n.inputs.take (i + 1)).map (·.width) = ws ++ [p.width]) := ⟨by rw [htk, hws]; simp⟩
      clear hws hlen htk
      conv => arg 3; whnf
      all_goals try (refine zs ?_; repeat' first | apply zs0 | apply zs2 | (intro hc; try have hq := dq hc))
      exact ⟨ws ++ [p.width], hsn.out.symm, by simp only [List.length_append, List.length_singleton, cellsNetl], by (simp only [seval, push_cast, *] <;> rfl), by simp [push_cast], by (simp only [seval, push_cast, *] <;> rfl)⟩
    · rintro ρ H' ⟨ws, hws, rfl, h1, h3, h11⟩
      rw [List.take_length] at hws
      replace hws : Kp (ws = n.inputs.map (·.width)) := ⟨hws⟩
      conv => arg 3; whnf
      all_goals try (refine zs ?_; repeat' first | apply zs0 | apply zs2 | (intro hc; try have hq := dq hc))
      exact ⟨ws, hws.out, by simp only [cellsNetl], by (simp only [seval, push_cast, *] <;> rfl), rfl⟩
  have key1 : ∀ (t : HObj) (bs : List Nat) i ρ H', i ≤ n.regs.length → (∃ ws, ws = n.inputs.map (·.width) ++ (n.regs.take i).map (·.width) ∧ H' = H ++ [.cells (cellsNetl n), t, .tok ws.length] ∧ ρ 1 = .ptr H.length 0 ∧ ρ 3 = .tl (H.length + 2) (ws.map (.int .i64)) ∧ ρ 5 = .int .i64 i) →
      Lp X ⟨39, bs⟩ (loopAt Tryz.f87 1) ρ H' fun ex ρ' H' => ∃ ws, ws = leavesN n ∧ H' = H ++ [.cells (cellsNetl n), t, .tok ws.length] ∧ ρ' 3 = .tl (H.length + 2) (ws.map (.int .i64)) ∧ ex = .exit 2 := by
    intro t bs
    refine loop_up ?_ ?_
    · rintro i ρ H' hlt ⟨ws, hws, rfl, h1, h3, h11⟩
      have hget : n.regs[i]? = some n.regs[i] := by simp [hlt]
      have htk : n.regs.take (i + 1) = n.regs.take i ++ [n.regs[i]] := by rw [List.take_add_one, hget]; rfl
      generalize n.regs[i] = p at hget htk
      have hlen : ws.length ≤ 2000 := by rw [hws]; simp; omega
      have hroom := room8 ws.length (by omega)
      have hw := add1 i n.regs.length hlt (by omega)
      have hsn : Kp (n.inputs.map (·.width) ++ (n.regs.take (i + 1)).map (·.width) = ws ++ [p.width]) := ⟨by rw [htk, hws]; simp⟩
      clear hws hlen htk
      conv => arg 3; whnf
      all_goals try (refine zs ?_; repeat' first | apply zs0 | apply zs2 | (intro hc; try have hq := dq hc))
      exact ⟨ws ++ [p.width], hsn.out.symm, by simp only [List.length_append, List.length_singleton, cellsNetl], by (simp only [seval, push_cast, *] <;> rfl), by simp [push_cast], by (simp only [seval, push_cast, *] <;> rfl)⟩
    · rintro ρ H' ⟨ws, hws, rfl, h1, h3, h11⟩
      rw [List.take_length] at hws
      replace hws : Kp (ws = n.inputs.map (·.width) ++ n.regs.map (·.width)) := ⟨hws⟩
      conv => arg 3; whnf
      all_goals try (refine zs ?_; repeat' first | apply zs0 | apply zs2 | (intro hc; try have hq := dq hc))
      exact ⟨ws, hws.out, by simp only [cellsNetl], by (simp only [seval, push_cast, *] <;> rfl), rfl⟩
  all_goals try (refine zs ?_; repeat' first | apply zs0 | apply zs2 | (intro hc; try have hq := dq hc))
  refine lp_then (lp_any (c := loopAt Tryz.f87 0) rfl (key0 _ _ 0 _ _ (by omega) ⟨[], rfl, rfl, by (simp only [seval, push_cast, *] <;> rfl), by (simp only [seval, push_cast, *] <;> rfl), by (simp only [seval, push_cast, *] <;> rfl)⟩)) ?_
  rintro ex ρ' H' ⟨ws, hws, rfl, h3, rfl⟩ hf
  have f1 := hf 1 rfl
  simp only [seval, push_cast] at f1
  clear key0 hf
  replace hws : Kp (ws = n.inputs.map (·.width)) := ⟨hws⟩
  all_goals try (refine zs ?_; repeat' first | apply zs0 | apply zs2 | (intro hc; try have hq := dq hc))
  refine lp_then (lp_any (c := loopAt Tryz.f87 1) rfl (key1 _ _ 0 _ _ (by omega) ⟨ws, by simp [hws.out], rfl, by (simp only [seval, push_cast, *] <;> rfl), by (simp only [seval, push_cast, *] <;> rfl), by (simp only [seval, push_cast, *] <;> rfl)⟩)) ?_
  rintro ex ρ' H' ⟨ws, rfl, rfl, h3, rfl⟩ -
  clear key1
  all_goals try (refine zs ?_; repeat' first | apply zs0 | apply zs2 | (intro hc; try have hq := dq hc))

theorem bs_isCond (bs : List Nat) (H : Heap) (nodes : List Node) (i : Int) (hn : nodes.length ≤ 1000000) : callw X bs 88 [.list (nodes.map encNode), .int .i64 i] H = some (.bool (isNodeL nodes i && decide (widthL nodes i = 1)), H) := by
  refine call_at (rs := [.tmp 4]) (N := 16) (fn := Tryz.f88) xk88 xf88 rfl rfl rfl (by simp only [seval, push_cast, List.map_cons, List.map_nil, V.norm, norm1]; rfl) ?_
  have hin := fun bs H => bs_isNode bs H nodes i hn
  cases h : isNodeL nodes i with
  | false =>
    all_goals try (refine zs ?_; repeat' first | apply zs0 | apply zs2 | (intro hc; try have hq := dq hc))
  | true =>
    obtain ⟨m, rfl, hlt⟩ : ∃ m : Nat, i = m ∧ m < nodes.length := by
      simp only [isNodeL, Bool.and_eq_true, decide_eq_true_eq] at h
      exact ⟨i.toNat, by omega, by omega⟩
    have hget : nodes[m]? = some nodes[m] := by simp [hlt]
    simp only [widthL, Int.toNat_natCast, hget]
    generalize nodes[m] = y at hget
    all_goals try (refine zs ?_; repeat' first | apply zs0 | apply zs2 | (intro hc; try have hq := dq hc))

end Go.E
/- Contracts of the references' base, in E: netlists. Own work. -/
namespace Go.E
open Go.Proofs
set_option maxRecDepth 100000
set_option maxHeartbeats 4000000

theorem ne_dup1 (bs : List Nat) (H : Heap) (n : Netl) (i : Nat) (r : Reg) (a b : Nat) (hr : n.regs[i]? = some r) (hl : n.regs.length ≤ 1000) (hl2 : n.inputs.length ≤ 1000) (hA : H[a]? = some (.cells (cellsNetl n))) (hB : H[b]? = some (.cells [.str r.name, .int .i64 r.width, .int .i64 r.init, .int .i64 r.enable, .int .i64 r.next])) (R : Bool) :
    ∀ j ρ H', j ≤ i → (H' = H ∧ ρ 1 = .ptr a 0 ∧ ρ 7 = .ptr b 0 ∧ ρ 6 = .int .i64 i ∧ ρ 8 = .int .i64 j ∧ Kp (((n.regs.take i).drop j).any (fun q => decide (q.name = r.name)) = R)) →
      Lp X ⟨155, bs⟩ (loopAt Tryz.f15 1) ρ H' fun ex ρ' H' => H' = H ∧ ((ex = .exit 2 ∧ R = false) ∨ (ex = .ret ∧ ρ' 2 = .int .i64 i ∧ ρ' 3 = .int .i64 5 ∧ R = true)) := by
  have hi := (List.getElem?_eq_some_iff.1 hr).1
  simp only [cellsNetl] at hA
  refine loop_up ?_ ?_
  · rintro j ρ H' hj ⟨rfl, h1, h7, h6, h8, hR⟩
    have hget : n.regs[j]? = some n.regs[j] := by simp [show j < n.regs.length by omega]
    have hget2 : (n.regs.take i)[j]? = some n.regs[j] := by rw [List.getElem?_take, if_pos hj]; exact hget
    generalize n.regs[j] = q at hget hget2
    have hw := add1 j i hj (by omega)
    replace hR := hR.out
    rw [drop_cons hget2, List.any_cons] at hR
    replace hR : Kp ((decide (q.name = r.name) || ((n.regs.take i).drop (j + 1)).any (fun q => decide (q.name = r.name))) = R) := ⟨hR⟩
    clear hget2 hr
    have hlt : (j : Int) < (i : Nat) := by omega
    conv => arg 3; whnf
    repeat' first
     | (apply z50 (id := 17) (ord := [0, 1, 2, 3, 4, 5, 6, 7, 8]) <;> first | kernel_rfl | skip)
     | (apply z50 (id := 22) (ord := [0, 1, 2, 3, 4, 5, 6, 7, 8]) <;> first | kernel_rfl | skip)
     | (apply z51 (id := 26) (ord := [0, 2, 3, 1, 4, 5, 6, 7, 8, 9]) (ps := [(2, 3)]) <;> first | kernel_rfl | skip)
     | (apply z50 (id := 35) (ord := [0, 1, 2, 3, 4, 5, 6, 7, 8, 9]) <;> first | kernel_rfl | skip)
     | (refine zs ?_; repeat' first | apply zs0 | apply zs2 | (intro hc; try have hq := dq hc)) | fail
    all_goals replace hR := hR.out
    · rw [hc] at hR
      exact ⟨rfl, .inr ⟨rfl, by (simp only [seval, push_cast, *] <;> rfl), by (simp only [seval, push_cast, *] <;> rfl), by rw [← hR]; rfl⟩⟩
    · rw [hc] at hR
      exact ⟨rfl, by (simp only [seval, push_cast, *] <;> rfl), by (simp only [seval, push_cast, *] <;> rfl), by (simp only [seval, push_cast, *] <;> rfl), by (simp only [seval, push_cast, *] <;> rfl), ⟨by rw [← hR]; rfl⟩⟩
  · rintro ρ H' ⟨rfl, h1, h7, h6, h8, hR⟩
    replace hR := hR.out
    rw [List.drop_of_length_le (by first | (simp; done) | (simp; omega)), List.any_nil] at hR
    replace hR : Kp (false = R) := ⟨hR⟩
    clear hr
    conv => arg 3; whnf
    repeat' first
     | (apply z50 (id := 17) (ord := [0, 1, 2, 3, 4, 5, 6, 7, 8]) <;> first | kernel_rfl | skip)
     | (apply z50 (id := 22) (ord := [0, 1, 2, 3, 4, 5, 6, 7, 8]) <;> first | kernel_rfl | skip)
     | (apply z51 (id := 26) (ord := [0, 2, 3, 1, 4, 5, 6, 7, 8, 9]) (ps := [(2, 3)]) <;> first | kernel_rfl | skip)
     | (apply z50 (id := 35) (ord := [0, 1, 2, 3, 4, 5, 6, 7, 8, 9]) <;> first | kernel_rfl | skip)
     | (refine zs ?_; repeat' first | apply zs0 | apply zs2 | (intro hc; try have hq := dq hc)) | fail
    exact ⟨rfl, .inl ⟨rfl, hR.out.symm⟩⟩

theorem ne_dup2 (bs : List Nat) (H : Heap) (n : Netl) (i : Nat) (r : Reg) (a b : Nat) (hr : n.regs[i]? = some r) (hl : n.regs.length ≤ 1000) (hl2 : n.inputs.length ≤ 1000) (hA : H[a]? = some (.cells (cellsNetl n))) (hB : H[b]? = some (.cells [.str r.name, .int .i64 r.width, .int .i64 r.init, .int .i64 r.enable, .int .i64 r.next])) (R : Bool) :
    ∀ j ρ H', j ≤ n.inputs.length → (H' = H ∧ ρ 1 = .ptr a 0 ∧ ρ 7 = .ptr b 0 ∧ ρ 6 = .int .i64 i ∧ ρ 9 = .int .i64 j ∧ Kp (((n.inputs).drop j).any (fun q => decide (q.name = r.name)) = R)) →
      Lp X ⟨155, bs⟩ (loopAt Tryz.f15 2) ρ H' fun ex ρ' H' => H' = H ∧ ((ex = .exit 4 ∧ R = false) ∨ (ex = .ret ∧ ρ' 2 = .int .i64 i ∧ ρ' 3 = .int .i64 5 ∧ R = true)) := by
  have hi := (List.getElem?_eq_some_iff.1 hr).1
  simp only [cellsNetl] at hA
  refine loop_up ?_ ?_
  · rintro j ρ H' hj ⟨rfl, h1, h7, h6, h8, hR⟩
    have hget : n.inputs[j]? = some n.inputs[j] := by simp [show j < n.inputs.length by omega]
    have hget2 : (n.inputs)[j]? = some n.inputs[j] := by exact hget
    generalize n.inputs[j] = q at hget hget2
    have hw := add1 j n.inputs.length hj (by omega)
    replace hR := hR.out
    rw [drop_cons hget2, List.any_cons] at hR
    replace hR : Kp ((decide (q.name = r.name) || ((n.inputs).drop (j + 1)).any (fun q => decide (q.name = r.name))) = R) := ⟨hR⟩
    clear hget2 hr
    have hlt : (j : Int) < (n.inputs.length : Nat) := by omega
    conv => arg 3; whnf
    repeat' first
     | (apply z50 (id := 17) (ord := [0, 1, 2, 3, 4, 5, 6, 7, 8]) <;> first | kernel_rfl | skip)
     | (apply z50 (id := 22) (ord := [0, 1, 2, 3, 4, 5, 6, 7, 8]) <;> first | kernel_rfl | skip)
     | (apply z51 (id := 26) (ord := [0, 2, 3, 1, 4, 5, 6, 7, 8, 9]) (ps := [(2, 3)]) <;> first | kernel_rfl | skip)
     | (apply z50 (id := 35) (ord := [0, 1, 2, 3, 4, 5, 6, 7, 8, 9]) <;> first | kernel_rfl | skip)
     | (refine zs ?_; repeat' first | apply zs0 | apply zs2 | (intro hc; try have hq := dq hc)) | fail
    all_goals replace hR := hR.out
    · rw [hc] at hR
      exact ⟨rfl, .inr ⟨rfl, by (simp only [seval, push_cast, *] <;> rfl), by (simp only [seval, push_cast, *] <;> rfl), by rw [← hR]; rfl⟩⟩
    · rw [hc] at hR
      exact ⟨rfl, by (simp only [seval, push_cast, *] <;> rfl), by (simp only [seval, push_cast, *] <;> rfl), by (simp only [seval, push_cast, *] <;> rfl), by (simp only [seval, push_cast, *] <;> rfl), ⟨by rw [← hR]; rfl⟩⟩
  · rintro ρ H' ⟨rfl, h1, h7, h6, h8, hR⟩
    replace hR := hR.out
    rw [List.drop_of_length_le (by first | (simp; done) | (simp; omega)), List.any_nil] at hR
    replace hR : Kp (false = R) := ⟨hR⟩
    clear hr
    conv => arg 3; whnf
    repeat' first
     | (apply z50 (id := 17) (ord := [0, 1, 2, 3, 4, 5, 6, 7, 8]) <;> first | kernel_rfl | skip)
     | (apply z50 (id := 22) (ord := [0, 1, 2, 3, 4, 5, 6, 7, 8]) <;> first | kernel_rfl | skip)
     | (apply z51 (id := 26) (ord := [0, 2, 3, 1, 4, 5, 6, 7, 8, 9]) (ps := [(2, 3)]) <;> first | kernel_rfl | skip)
     | (apply z50 (id := 35) (ord := [0, 1, 2, 3, 4, 5, 6, 7, 8, 9]) <;> first | kernel_rfl | skip)
     | (refine zs ?_; repeat' first | apply zs0 | apply zs2 | (intro hc; try have hq := dq hc)) | fail
    exact ⟨rfl, .inl ⟨rfl, hR.out.symm⟩⟩

theorem ne_regs (bs : List Nat) (H : Heap) (n : Netl) (hS : Small n) (R : Int × Int) :
    ∀ i ρ H', i ≤ n.regs.length → (∃ junk, H' = H ++ .cells (cellsNetl n) :: junk ∧ ρ 1 = .ptr H.length 0 ∧ ρ 6 = .int .i64 i ∧ Kp (eachP (regErrR n) i (n.regs.drop i) = R)) →
      Lp X ⟨155, bs⟩ (loopAt Tryz.f15 0) ρ H' fun ex ρ' H' => ∃ junk, H' = H ++ .cells (cellsNetl n) :: junk ∧ ((ex = .exit 0 ∧ R = (0, 0)) ∨ (ex = .ret ∧ ρ' 2 = .int .i64 R.1 ∧ ρ' 3 = .int .i64 R.2 ∧ R.2 ≠ 0)) := by
  have hr := hS.regs
  have hi2 := hS.inputs
  have hs := hS.rgn
  clear hS
  refine loop_up ?_ ?_
  · rintro i ρ H' hi ⟨junk, rfl, h1, h6, hR⟩
    have hget : n.regs[i]? = some n.regs[i] := by simp [hi]
    have hnm := fun bs H => bs_isName bs H n.regs[i].name (by have := hs _ (List.getElem_mem hi); omega)
    have hw := add1 i n.regs.length hi (by omega)
    replace hR := hR.out
    rw [drop_cons hget, eachP] at hR
    have hin1 := fun bs ρ => ne_dup1 bs (H ++ .cells (cellsNetl n) :: (junk ++ [.cells [.str n.regs[i].name, .int .i64 n.regs[i].width, .int .i64 n.regs[i].init, .int .i64 n.regs[i].enable, .int .i64 n.regs[i].next]])) n i n.regs[i] H.length (H.length + (junk.length + 1)) hget hr hi2 (by simp) (by simp) ((n.regs.take i).any (fun q => decide (q.name = n.regs[i].name))) 0 ρ
    have hin2 := fun bs ρ => ne_dup2 bs (H ++ .cells (cellsNetl n) :: (junk ++ [.cells [.str n.regs[i].name, .int .i64 n.regs[i].width, .int .i64 n.regs[i].init, .int .i64 n.regs[i].enable, .int .i64 n.regs[i].next]])) n i n.regs[i] H.length (H.length + (junk.length + 1)) hget hr hi2 (by simp) (by simp) (n.inputs.any (fun q => decide (q.name = n.regs[i].name))) 0 ρ
    generalize n.regs[i] = p at hget hnm hR hin1 hin2
    clear hs
    cases hN : isNameS p.name with
    | false =>
      have he : regErrR n i p = 4 := by unfold regErrR; rw [if_pos hN]
      rw [he, if_pos (by decide)] at hR
      replace hR : Kp (((i : Int), (4 : Int)) = R) := ⟨hR⟩
      clear he hin1 hin2
      conv => arg 3; whnf
      repeat' first
       | (apply z50 (id := 17) (ord := [0, 1, 2, 3, 4, 5, 6, 7, 8]) <;> first | kernel_rfl | skip)
       | (apply z50 (id := 22) (ord := [0, 1, 2, 3, 4, 5, 6, 7, 8]) <;> first | kernel_rfl | skip)
       | (apply z51 (id := 26) (ord := [0, 2, 3, 1, 4, 5, 6, 7, 8, 9]) (ps := [(2, 3)]) <;> first | kernel_rfl | skip)
       | (apply z50 (id := 35) (ord := [0, 1, 2, 3, 4, 5, 6, 7, 8, 9]) <;> first | kernel_rfl | skip)
       | (refine zs ?_; repeat' first | apply zs0 | apply zs2 | (intro hc; try have hq := dq hc)) | fail
      exact ⟨_, rfl, .inr ⟨rfl, by rw [← hR.out]; (simp only [seval, push_cast, *] <;> rfl), by rw [← hR.out]; (simp only [seval, push_cast, *] <;> rfl), by rw [← hR.out]; simp⟩⟩
    | true =>
    replace hR := Kp.mk hR
    conv => arg 3; whnf
    repeat' first
     | (apply z50 (id := 17) (ord := [0, 1, 2, 3, 4, 5, 6, 7, 8]) <;> first | kernel_rfl | skip)
     | (apply z50 (id := 22) (ord := [0, 1, 2, 3, 4, 5, 6, 7, 8]) <;> first | kernel_rfl | skip)
     | (apply z51 (id := 26) (ord := [0, 2, 3, 1, 4, 5, 6, 7, 8, 9]) (ps := [(2, 3)]) <;> first | kernel_rfl | skip)
     | (apply z50 (id := 35) (ord := [0, 1, 2, 3, 4, 5, 6, 7, 8, 9]) <;> first | kernel_rfl | skip)
     | (refine zs ?_; repeat' first | apply zs0 | apply zs2 | (intro hc; try have hq := dq hc)) | fail
    refine lp_then (lp_any (c := loopAt Tryz.f15 1) rfl (hin1 _ _ _ (by omega) ⟨rfl, by (simp only [seval, push_cast, *] <;> rfl), by (simp only [seval, push_cast, *] <;> rfl), by (simp only [seval, push_cast, *] <;> rfl), by (simp only [seval, push_cast, *] <;> rfl), ⟨rfl⟩⟩)) ?_
    clear hin1
    rintro ex ρ' H2 ⟨rfl, ⟨rfl, h2⟩ | ⟨rfl, h2, h3, h9⟩⟩ hf
    case inr =>
      replace hR := hR.out
      have he : regErrR n i p = 5 := by unfold regErrR; rw [if_neg (by simp [hN]), if_pos h9]
      rw [he, if_pos (by decide)] at hR
      replace hR : Kp (((i : Int), (5 : Int)) = R) := ⟨hR⟩
      clear he h9 hin2
      repeat' first
       | (apply z50 (id := 17) (ord := [0, 1, 2, 3, 4, 5, 6, 7, 8]) <;> first | kernel_rfl | skip)
       | (apply z50 (id := 22) (ord := [0, 1, 2, 3, 4, 5, 6, 7, 8]) <;> first | kernel_rfl | skip)
       | (apply z51 (id := 26) (ord := [0, 2, 3, 1, 4, 5, 6, 7, 8, 9]) (ps := [(2, 3)]) <;> first | kernel_rfl | skip)
       | (apply z50 (id := 35) (ord := [0, 1, 2, 3, 4, 5, 6, 7, 8, 9]) <;> first | kernel_rfl | skip)
       | (refine zs ?_; repeat' first | apply zs0 | apply zs2 | (intro hc; try have hq := dq hc)) | fail
      exact ⟨_, rfl, .inr ⟨rfl, by rw [← hR.out]; (simp only [seval, push_cast, *] <;> rfl), by rw [← hR.out]; (simp only [seval, push_cast, *] <;> rfl), by rw [← hR.out]; simp⟩⟩
    have f1 := hf 1 rfl
    have f6 := hf 6 rfl
    have f7 := hf 7 rfl
    simp only [seval, push_cast] at f1 f6 f7
    rw [h1] at f1
    rw [h6] at f6
    clear hf h1 h6
    repeat' first
     | (apply z50 (id := 17) (ord := [0, 1, 2, 3, 4, 5, 6, 7, 8]) <;> first | kernel_rfl | skip)
     | (apply z50 (id := 22) (ord := [0, 1, 2, 3, 4, 5, 6, 7, 8]) <;> first | kernel_rfl | skip)
     | (apply z51 (id := 26) (ord := [0, 2, 3, 1, 4, 5, 6, 7, 8, 9]) (ps := [(2, 3)]) <;> first | kernel_rfl | skip)
     | (apply z50 (id := 35) (ord := [0, 1, 2, 3, 4, 5, 6, 7, 8, 9]) <;> first | kernel_rfl | skip)
     | (refine zs ?_; repeat' first | apply zs0 | apply zs2 | (intro hc; try have hq := dq hc)) | fail
    refine lp_then (lp_any (c := loopAt Tryz.f15 2) rfl (hin2 _ _ _ (by omega) ⟨rfl, by (simp only [seval, push_cast, *] <;> rfl), by (simp only [seval, push_cast, *] <;> rfl), by (simp only [seval, push_cast, *] <;> rfl), by (simp only [seval, push_cast, *] <;> rfl), ⟨rfl⟩⟩)) ?_
    clear hin2
    rintro ex ρ2 H2 ⟨rfl, ⟨rfl, h22⟩ | ⟨rfl, h22, h23, h29⟩⟩ hf
    case inr =>
      replace hR := hR.out
      have he : regErrR n i p = 5 := by unfold regErrR; rw [if_neg (by simp [hN]), if_neg (by simp only [h2]; decide), if_pos h29]
      rw [he, if_pos (by decide)] at hR
      replace hR : Kp (((i : Int), (5 : Int)) = R) := ⟨hR⟩
      clear he h29
      repeat' first
       | (apply z50 (id := 17) (ord := [0, 1, 2, 3, 4, 5, 6, 7, 8]) <;> first | kernel_rfl | skip)
       | (apply z50 (id := 22) (ord := [0, 1, 2, 3, 4, 5, 6, 7, 8]) <;> first | kernel_rfl | skip)
       | (apply z51 (id := 26) (ord := [0, 2, 3, 1, 4, 5, 6, 7, 8, 9]) (ps := [(2, 3)]) <;> first | kernel_rfl | skip)
       | (apply z50 (id := 35) (ord := [0, 1, 2, 3, 4, 5, 6, 7, 8, 9]) <;> first | kernel_rfl | skip)
       | (refine zs ?_; repeat' first | apply zs0 | apply zs2 | (intro hc; try have hq := dq hc)) | fail
      exact ⟨_, rfl, .inr ⟨rfl, by rw [← hR.out]; (simp only [seval, push_cast, *] <;> rfl), by rw [← hR.out]; (simp only [seval, push_cast, *] <;> rfl), by rw [← hR.out]; simp⟩⟩
    have g1 := hf 1 rfl
    have g6 := hf 6 rfl
    have g7 := hf 7 rfl
    simp only [seval, push_cast] at g1 g6 g7
    rw [f1] at g1
    rw [f6] at g6
    rw [f7] at g7
    clear hf f1 f6 f7
    replace hR := hR.out
    cases hW : isW p.width with
    | false =>
      have he : regErrR n i p = 2 := by unfold regErrR; rw [if_neg (by simp [hN]), if_neg (by simp only [h2]; decide), if_neg (by simp only [h22]; decide), hW]; rfl
      rw [he, if_pos (by decide)] at hR
      replace hR : Kp (((i : Int), (2 : Int)) = R) := ⟨hR⟩
      unfold isW at hW
      clear he h2 h22
      repeat' first
       | (apply z50 (id := 17) (ord := [0, 1, 2, 3, 4, 5, 6, 7, 8]) <;> first | kernel_rfl | skip)
       | (apply z50 (id := 22) (ord := [0, 1, 2, 3, 4, 5, 6, 7, 8]) <;> first | kernel_rfl | skip)
       | (apply z51 (id := 26) (ord := [0, 2, 3, 1, 4, 5, 6, 7, 8, 9]) (ps := [(2, 3)]) <;> first | kernel_rfl | skip)
       | (apply z50 (id := 35) (ord := [0, 1, 2, 3, 4, 5, 6, 7, 8, 9]) <;> first | kernel_rfl | skip)
       | (refine zs ?_; repeat' first | apply zs0 | apply zs2 | (intro hc; try have hq := dq hc)) | fail
      exact ⟨_, rfl, .inr ⟨rfl, by rw [← hR.out]; (simp only [seval, push_cast, *] <;> rfl), by rw [← hR.out]; (simp only [seval, push_cast, *] <;> rfl), by rw [← hR.out]; simp⟩⟩
    | true =>
      have hw0 : 0 ≤ p.width := by simp only [isW, Bool.and_eq_true, decide_eq_true_eq] at hW; omega
      have hfit := fun bs H => bs_fits bs H p.init p.width hw0
      cases hF : fitsN p.init p.width with
      | false =>
        have he : regErrR n i p = 2 := by unfold regErrR; rw [if_neg (by simp [hN]), if_neg (by simp only [h2]; decide), if_neg (by simp only [h22]; decide), hW, hF]; rfl
        rw [he, if_pos (by decide)] at hR
        replace hR : Kp (((i : Int), (2 : Int)) = R) := ⟨hR⟩
        unfold isW at hW
        clear he h2 h22
        repeat' first
         | (apply z50 (id := 17) (ord := [0, 1, 2, 3, 4, 5, 6, 7, 8]) <;> first | kernel_rfl | skip)
         | (apply z50 (id := 22) (ord := [0, 1, 2, 3, 4, 5, 6, 7, 8]) <;> first | kernel_rfl | skip)
         | (apply z51 (id := 26) (ord := [0, 2, 3, 1, 4, 5, 6, 7, 8, 9]) (ps := [(2, 3)]) <;> first | kernel_rfl | skip)
         | (apply z50 (id := 35) (ord := [0, 1, 2, 3, 4, 5, 6, 7, 8, 9]) <;> first | kernel_rfl | skip)
         | (refine zs ?_; repeat' first | apply zs0 | apply zs2 | (intro hc; try have hq := dq hc)) | fail
        exact ⟨_, rfl, .inr ⟨rfl, by rw [← hR.out]; (simp only [seval, push_cast, *] <;> rfl), by rw [← hR.out]; (simp only [seval, push_cast, *] <;> rfl), by rw [← hR.out]; simp⟩⟩
      | true =>
        have he : regErrR n i p = 0 := by unfold regErrR; rw [if_neg (by simp [hN]), if_neg (by simp only [h2]; decide), if_neg (by simp only [h22]; decide), hW, hF]; rfl
        rw [he, if_neg (by decide)] at hR
        replace hR := Kp.mk hR
        unfold isW at hW
        clear he h2 h22
        repeat' first
         | (apply z50 (id := 17) (ord := [0, 1, 2, 3, 4, 5, 6, 7, 8]) <;> first | kernel_rfl | skip)
         | (apply z50 (id := 22) (ord := [0, 1, 2, 3, 4, 5, 6, 7, 8]) <;> first | kernel_rfl | skip)
         | (apply z51 (id := 26) (ord := [0, 2, 3, 1, 4, 5, 6, 7, 8, 9]) (ps := [(2, 3)]) <;> first | kernel_rfl | skip)
         | (apply z50 (id := 35) (ord := [0, 1, 2, 3, 4, 5, 6, 7, 8, 9]) <;> first | kernel_rfl | skip)
         | (refine zs ?_; repeat' first | apply zs0 | apply zs2 | (intro hc; try have hq := dq hc)) | fail
        exact ⟨_, rfl, by (simp only [seval, push_cast, *] <;> rfl), by (simp only [seval, push_cast, *] <;> rfl), hR⟩
  · rintro ρ H' ⟨junk, rfl, h1, h6, hR⟩
    replace hR := hR.out
    rw [List.drop_length, eachP] at hR
    replace hR : Kp ((0, 0) = R) := ⟨hR⟩
    clear hs
    conv => arg 3; whnf
    repeat' first
     | (apply z50 (id := 17) (ord := [0, 1, 2, 3, 4, 5, 6, 7, 8]) <;> first | kernel_rfl | skip)
     | (apply z50 (id := 22) (ord := [0, 1, 2, 3, 4, 5, 6, 7, 8]) <;> first | kernel_rfl | skip)
     | (apply z51 (id := 26) (ord := [0, 2, 3, 1, 4, 5, 6, 7, 8, 9]) (ps := [(2, 3)]) <;> first | kernel_rfl | skip)
     | (apply z50 (id := 35) (ord := [0, 1, 2, 3, 4, 5, 6, 7, 8, 9]) <;> first | kernel_rfl | skip)
     | (refine zs ?_; repeat' first | apply zs0 | apply zs2 | (intro hc; try have hq := dq hc)) | fail
    exact ⟨_, rfl, .inl ⟨rfl, hR.out.symm⟩⟩

end Go.E
/- Contracts of the references' base, in E: NetErr. Own work. -/
namespace Go.E
open Go.Proofs
set_option maxRecDepth 100000
set_option maxHeartbeats 4000000

theorem ne_regs2 (bs : List Nat) (H : Heap) (n : Netl) (hS : Small n) (R : Int × Int) :
    ∀ i ρ H', i ≤ n.regs.length → (∃ junk, H' = H ++ .cells (cellsNetl n) :: junk ∧ ρ 1 = .ptr H.length 0 ∧ ρ 12 = .int .i64 i ∧ Kp (eachP (regErr2S n) i (n.regs.drop i) = R)) →
      Lp X ⟨155, bs⟩ (loopAt Tryz.f15 3) ρ H' fun ex ρ' H' => ∃ junk, H' = H ++ .cells (cellsNetl n) :: junk ∧ ((ex = .exit 6 ∧ R = (0, 0) ∧ ρ' 1 = .ptr H.length 0) ∨ (ex = .ret ∧ ρ' 2 = .int .i64 R.1 ∧ ρ' 3 = .int .i64 R.2 ∧ R.2 ≠ 0)) := by
  have hr := hS.regs
  have hn := hS.nodes
  clear hS
  refine loop_up ?_ ?_
  · rintro i ρ H' hi ⟨junk, rfl, h1, h6, hR⟩
    have hget : n.regs[i]? = some n.regs[i] := by simp [hi]
    have hw := add1 i n.regs.length hi (by omega)
    replace hR := hR.out
    rw [drop_cons hget, eachP] at hR
    generalize n.regs[i] = p at hget hR
    have hic := fun bs H => bs_isCond bs H n.nodes p.enable (by omega)
    have hin := fun bs H => bs_isNode bs H n.nodes p.next (by omega)
    have e1 : isNodeN n p.enable = isNodeL n.nodes p.enable := rfl
    have e2 : widthAt n p.enable = widthL n.nodes p.enable := rfl
    have e3 : isNodeN n p.next = isNodeL n.nodes p.next := rfl
    have e4 : widthAt n p.next = widthL n.nodes p.next := rfl
    have fin9 : regErr2S n i p = 9 → (isNodeL n.nodes p.enable && decide (widthL n.nodes p.enable = 1)) = false ∨ isNodeL n.nodes p.next = false →
        Ev X ⟨155, bs⟩ (loopAt Tryz.f15 3) ρ (H ++ .cells (cellsNetl n) :: junk) (roundQ (fun ρ H' => ∃ junk, H' = H ++ .cells (cellsNetl n) :: junk ∧ ρ 1 = .ptr H.length 0 ∧ ρ 12 = .int .i64 ((i + 1 : Nat) : Int) ∧ Kp (eachP (regErr2S n) (i + 1) (n.regs.drop (i + 1)) = R))
          fun ex ρ' H' => ∃ junk, H' = H ++ .cells (cellsNetl n) :: junk ∧ ((ex = .exit 6 ∧ R = (0, 0) ∧ ρ' 1 = .ptr H.length 0) ∨ (ex = .ret ∧ ρ' 2 = .int .i64 R.1 ∧ ρ' 3 = .int .i64 R.2 ∧ R.2 ≠ 0))) := by
      intro he hor
      rw [he, if_pos (by decide)] at hR
      replace hR : Kp (((i : Int), (9 : Int)) = R) := ⟨hR⟩
      clear he e1 e2 e3 e4
      cases hc1 : (isNodeL n.nodes p.enable && decide (widthL n.nodes p.enable = 1)) with
      | false =>
        clear hor
        conv => arg 3; whnf
        repeat' first
         | (apply z50 (id := 17) (ord := [0, 1, 2, 3, 4, 5, 6, 7, 8]) <;> first | kernel_rfl | skip)
         | (apply z50 (id := 22) (ord := [0, 1, 2, 3, 4, 5, 6, 7, 8]) <;> first | kernel_rfl | skip)
         | (apply z51 (id := 26) (ord := [0, 2, 3, 1, 4, 5, 6, 7, 8, 9]) (ps := [(2, 3)]) <;> first | kernel_rfl | skip)
         | (apply z50 (id := 35) (ord := [0, 1, 2, 3, 4, 5, 6, 7, 8, 9]) <;> first | kernel_rfl | skip)
         | (refine zs ?_; repeat' first | apply zs0 | apply zs2 | (intro hc; try have hq := dq hc)) | fail
        exact ⟨_, rfl, .inr ⟨rfl, by rw [← hR.out]; (simp only [seval, push_cast, *] <;> rfl), by rw [← hR.out]; (simp only [seval, push_cast, *] <;> rfl), by rw [← hR.out]; simp⟩⟩
      | true =>
        have hc2 : isNodeL n.nodes p.next = false := hor.resolve_left (by rw [hc1]; simp)
        clear hor
        conv => arg 3; whnf
        repeat' first
         | (apply z50 (id := 17) (ord := [0, 1, 2, 3, 4, 5, 6, 7, 8]) <;> first | kernel_rfl | skip)
         | (apply z50 (id := 22) (ord := [0, 1, 2, 3, 4, 5, 6, 7, 8]) <;> first | kernel_rfl | skip)
         | (apply z51 (id := 26) (ord := [0, 2, 3, 1, 4, 5, 6, 7, 8, 9]) (ps := [(2, 3)]) <;> first | kernel_rfl | skip)
         | (apply z50 (id := 35) (ord := [0, 1, 2, 3, 4, 5, 6, 7, 8, 9]) <;> first | kernel_rfl | skip)
         | (refine zs ?_; repeat' first | apply zs0 | apply zs2 | (intro hc; try have hq := dq hc)) | fail
        exact ⟨_, rfl, .inr ⟨rfl, by rw [← hR.out]; (simp only [seval, push_cast, *] <;> rfl), by rw [← hR.out]; (simp only [seval, push_cast, *] <;> rfl), by rw [← hR.out]; simp⟩⟩
    cases c1 : isNodeL n.nodes p.enable with
    | false => exact fin9 (by unfold regErr2S; rw [e1, c1]; rfl) (.inl (by rw [c1]; rfl))
    | true =>
    by_cases c2 : widthL n.nodes p.enable = 1
    case neg => exact fin9 (by unfold regErr2S; rw [e1, c1, if_neg (by simp), e2, if_pos c2]) (.inl (by rw [c1, decide_eq_false c2]; rfl))
    cases c3 : isNodeL n.nodes p.next with
    | false => exact fin9 (by unfold regErr2S; rw [e1, c1, if_neg (by simp), e2, if_neg (by simpa using c2), e3, c3]; rfl) (.inr c3)
    | true =>
    have hcc : (isNodeL n.nodes p.enable && decide (widthL n.nodes p.enable = 1)) = true := by rw [c1, decide_eq_true c2]; rfl
    rw [hcc] at hic
    rw [c3] at hin
    obtain ⟨m, hm, hlt⟩ : ∃ m : Nat, p.next = m ∧ m < n.nodes.length := by
      simp only [isNodeL, Bool.and_eq_true, decide_eq_true_eq] at c3
      exact ⟨p.next.toNat, by omega, by omega⟩
    have hgm : n.nodes[m]? = some n.nodes[m] := by simp [hlt]
    have hwm : widthL n.nodes p.next = n.nodes[m].width := by simp [widthL, hm, hgm]
    generalize n.nodes[m] = y at hgm hwm
    have he : regErr2S n i p = if y.width = p.width then 0 else 25 := by unfold regErr2S; rw [e1, c1, if_neg (by simp), e2, if_neg (by simpa using c2), e3, c3, if_neg (by simp), e4, hwm]
    rw [hm] at hin
    clear fin9 e1 e2 e3 e4 hcc c1 c2 c3 hwm
    by_cases hy : y.width = p.width
    · rw [he, if_pos hy, if_neg (by decide)] at hR
      replace hR := Kp.mk hR
      clear he
      conv => arg 3; whnf
      repeat' first
       | (apply z50 (id := 17) (ord := [0, 1, 2, 3, 4, 5, 6, 7, 8]) <;> first | kernel_rfl | skip)
       | (apply z50 (id := 22) (ord := [0, 1, 2, 3, 4, 5, 6, 7, 8]) <;> first | kernel_rfl | skip)
       | (apply z51 (id := 26) (ord := [0, 2, 3, 1, 4, 5, 6, 7, 8, 9]) (ps := [(2, 3)]) <;> first | kernel_rfl | skip)
       | (apply z50 (id := 35) (ord := [0, 1, 2, 3, 4, 5, 6, 7, 8, 9]) <;> first | kernel_rfl | skip)
       | (refine zs ?_; repeat' first | apply zs0 | apply zs2 | (intro hc; try have hq := dq hc)) | fail
      exact ⟨_, rfl, by (simp only [seval, push_cast, *] <;> rfl), by (simp only [seval, push_cast, *] <;> rfl), hR⟩
    · rw [he, if_neg hy, if_pos (by decide)] at hR
      replace hR : Kp (((i : Int), (25 : Int)) = R) := ⟨hR⟩
      clear he
      conv => arg 3; whnf
      repeat' first
       | (apply z50 (id := 17) (ord := [0, 1, 2, 3, 4, 5, 6, 7, 8]) <;> first | kernel_rfl | skip)
       | (apply z50 (id := 22) (ord := [0, 1, 2, 3, 4, 5, 6, 7, 8]) <;> first | kernel_rfl | skip)
       | (apply z51 (id := 26) (ord := [0, 2, 3, 1, 4, 5, 6, 7, 8, 9]) (ps := [(2, 3)]) <;> first | kernel_rfl | skip)
       | (apply z50 (id := 35) (ord := [0, 1, 2, 3, 4, 5, 6, 7, 8, 9]) <;> first | kernel_rfl | skip)
       | (refine zs ?_; repeat' first | apply zs0 | apply zs2 | (intro hc; try have hq := dq hc)) | fail
      exact ⟨_, rfl, .inr ⟨rfl, by rw [← hR.out]; (simp only [seval, push_cast, *] <;> rfl), by rw [← hR.out]; (simp only [seval, push_cast, *] <;> rfl), by rw [← hR.out]; simp⟩⟩
  · rintro ρ H' ⟨junk, rfl, h1, h6, hR⟩
    replace hR := hR.out
    rw [List.drop_length, eachP] at hR
    replace hR : Kp ((0, 0) = R) := ⟨hR⟩
    conv => arg 3; whnf
    repeat' first
     | (apply z50 (id := 17) (ord := [0, 1, 2, 3, 4, 5, 6, 7, 8]) <;> first | kernel_rfl | skip)
     | (apply z50 (id := 22) (ord := [0, 1, 2, 3, 4, 5, 6, 7, 8]) <;> first | kernel_rfl | skip)
     | (apply z51 (id := 26) (ord := [0, 2, 3, 1, 4, 5, 6, 7, 8, 9]) (ps := [(2, 3)]) <;> first | kernel_rfl | skip)
     | (apply z50 (id := 35) (ord := [0, 1, 2, 3, 4, 5, 6, 7, 8, 9]) <;> first | kernel_rfl | skip)
     | (refine zs ?_; repeat' first | apply zs0 | apply zs2 | (intro hc; try have hq := dq hc)) | fail
    exact ⟨_, rfl, .inl ⟨rfl, hR.out.symm, by (simp only [seval, push_cast, *] <;> rfl)⟩⟩

theorem bs_netErr (bs : List Nat) (H : Heap) (n : Netl) (hS : Small n) : callw X bs 15 [encNetl n] H = some (.tuple [.int .i64 (netErrR n).1, .int .i64 (netErrR n).2], H) := by
  refine call_at (rs := [.tmp 2, .tmp 3]) (N := 155) (fn := Tryz.f15) xk15 xf15 rfl rfl rfl (by simp only [seval, push_cast, List.map_cons, List.map_nil, V.norm, norm1]; rfl) ?_
  have h1 := fun bs H => bs_isName bs H n.name (by have := hS.name; omega)
  have h2 := fun bs H => bs_portsErr bs H n.inputs (by have := hS.inputs; omega) (fun p hp => by have := hS.inn p hp; omega)
  have h3 := fun bs H => bs_netLeaves bs H n hS.inputs hS.regs
  have h4 := fun bs H => bs_nodesErr bs H (leavesN n) n.nodes (by have := hS.inputs; have := hS.regs; simp [leavesN]; omega) (by have := hS.nodes; omega) (fun x hx => by have := hS.args x hx; omega)
  have h5 := fun bs H => bs_outsErr bs H n.nodes n.outs (by have := hS.nodes; omega) (by have := hS.outs; omega) (fun p hp => by have := hS.otn p hp; omega)
  have l1 := fun bs ρ H' => ne_regs bs H n hS (eachP (regErrR n) 0 n.regs) 0 ρ H' (by omega)
  have l2 := fun bs ρ H' => ne_regs2 bs H n hS (eachP (regErr2S n) 0 n.regs) 0 ρ H' (by omega)
  have hwp : IntKind.i64.wrap ((n.inputs.length : Int) + n.regs.length) = (n.inputs.length : Int) + n.regs.length := by have := hS.inputs; have := hS.regs; rw [wrap64] <;> omega
  simp only [encNetl, cellsNetl] at h3
  clear hS
  unfold netErrR
  cases hN : isNameS n.name with
  | false =>
    rw [if_pos rfl]
    clear l1 l2
    repeat' first
     | (apply z50 (id := 17) (ord := [0, 1, 2, 3, 4, 5, 6, 7, 8]) <;> first | kernel_rfl | skip)
     | (apply z50 (id := 22) (ord := [0, 1, 2, 3, 4, 5, 6, 7, 8]) <;> first | kernel_rfl | skip)
     | (apply z51 (id := 26) (ord := [0, 2, 3, 1, 4, 5, 6, 7, 8, 9]) (ps := [(2, 3)]) <;> first | kernel_rfl | skip)
     | (apply z50 (id := 35) (ord := [0, 1, 2, 3, 4, 5, 6, 7, 8, 9]) <;> first | kernel_rfl | skip)
     | (refine zs ?_; repeat' first | apply zs0 | apply zs2 | (intro hc; try have hq := dq hc)) | fail
  | true =>
  rw [if_neg (by simp)]
  by_cases hP : (portsErrR n.inputs).2 = 0
  case neg =>
    rw [if_pos hP]
    clear l1 l2
    repeat' first
     | (apply z50 (id := 17) (ord := [0, 1, 2, 3, 4, 5, 6, 7, 8]) <;> first | kernel_rfl | skip)
     | (apply z50 (id := 22) (ord := [0, 1, 2, 3, 4, 5, 6, 7, 8]) <;> first | kernel_rfl | skip)
     | (apply z51 (id := 26) (ord := [0, 2, 3, 1, 4, 5, 6, 7, 8, 9]) (ps := [(2, 3)]) <;> first | kernel_rfl | skip)
     | (apply z50 (id := 35) (ord := [0, 1, 2, 3, 4, 5, 6, 7, 8, 9]) <;> first | kernel_rfl | skip)
     | (refine zs ?_; repeat' first | apply zs0 | apply zs2 | (intro hc; try have hq := dq hc)) | fail
  rw [if_neg (by simpa using hP)]
  by_cases h40 : 40 < n.inputs.length + n.regs.length
  case pos =>
    rw [if_pos h40]
    have d : (40 : Int) < (n.inputs.length : Int) + n.regs.length := by omega
    clear l1 l2
    repeat' first
     | (apply z50 (id := 17) (ord := [0, 1, 2, 3, 4, 5, 6, 7, 8]) <;> first | kernel_rfl | skip)
     | (apply z50 (id := 22) (ord := [0, 1, 2, 3, 4, 5, 6, 7, 8]) <;> first | kernel_rfl | skip)
     | (apply z51 (id := 26) (ord := [0, 2, 3, 1, 4, 5, 6, 7, 8, 9]) (ps := [(2, 3)]) <;> first | kernel_rfl | skip)
     | (apply z50 (id := 35) (ord := [0, 1, 2, 3, 4, 5, 6, 7, 8, 9]) <;> first | kernel_rfl | skip)
     | (refine zs ?_; repeat' first | apply zs0 | apply zs2 | (intro hc; try have hq := dq hc)) | fail
  rw [if_neg h40]
  have d : decide ((40 : Int) < (n.inputs.length : Int) + n.regs.length) = false := decide_eq_false (by omega)
  repeat' first
   | (apply z50 (id := 17) (ord := [0, 1, 2, 3, 4, 5, 6, 7, 8]) <;> first | kernel_rfl | skip)
   | (apply z50 (id := 22) (ord := [0, 1, 2, 3, 4, 5, 6, 7, 8]) <;> first | kernel_rfl | skip)
   | (apply z51 (id := 26) (ord := [0, 2, 3, 1, 4, 5, 6, 7, 8, 9]) (ps := [(2, 3)]) <;> first | kernel_rfl | skip)
   | (apply z50 (id := 35) (ord := [0, 1, 2, 3, 4, 5, 6, 7, 8, 9]) <;> first | kernel_rfl | skip)
   | (refine zs ?_; repeat' first | apply zs0 | apply zs2 | (intro hc; try have hq := dq hc)) | fail
  refine lp_then (lp_any (c := loopAt Tryz.f15 0) rfl (l1 _ _ _ ⟨[], rfl, by (simp only [seval, push_cast, *] <;> rfl), by (simp only [seval, push_cast, *] <;> rfl), ⟨rfl⟩⟩)) ?_
  clear l1
  rintro ex ρ' H2 ⟨junk, rfl, ⟨rfl, g2⟩ | ⟨rfl, g2, g3, g4⟩⟩ hf
  case inr =>
    rw [if_pos g4]
    clear l2 g4
    repeat' first
     | (apply z50 (id := 17) (ord := [0, 1, 2, 3, 4, 5, 6, 7, 8]) <;> first | kernel_rfl | skip)
     | (apply z50 (id := 22) (ord := [0, 1, 2, 3, 4, 5, 6, 7, 8]) <;> first | kernel_rfl | skip)
     | (apply z51 (id := 26) (ord := [0, 2, 3, 1, 4, 5, 6, 7, 8, 9]) (ps := [(2, 3)]) <;> first | kernel_rfl | skip)
     | (apply z50 (id := 35) (ord := [0, 1, 2, 3, 4, 5, 6, 7, 8, 9]) <;> first | kernel_rfl | skip)
     | (refine zs ?_; repeat' first | apply zs0 | apply zs2 | (intro hc; try have hq := dq hc)) | fail
  have f1 := hf 1 rfl
  simp only [seval, push_cast] at f1
  rw [g2, if_neg (by decide)]
  clear hf g2
  by_cases hM : (nodesErrR (leavesN n) n.nodes).2 = 0
  case neg =>
    rw [if_pos hM]
    clear l2
    repeat' first
     | (apply z50 (id := 17) (ord := [0, 1, 2, 3, 4, 5, 6, 7, 8]) <;> first | kernel_rfl | skip)
     | (apply z50 (id := 22) (ord := [0, 1, 2, 3, 4, 5, 6, 7, 8]) <;> first | kernel_rfl | skip)
     | (apply z51 (id := 26) (ord := [0, 2, 3, 1, 4, 5, 6, 7, 8, 9]) (ps := [(2, 3)]) <;> first | kernel_rfl | skip)
     | (apply z50 (id := 35) (ord := [0, 1, 2, 3, 4, 5, 6, 7, 8, 9]) <;> first | kernel_rfl | skip)
     | (refine zs ?_; repeat' first | apply zs0 | apply zs2 | (intro hc; try have hq := dq hc)) | fail
  rw [if_neg (by simpa using hM)]
  repeat' first
   | (apply z50 (id := 17) (ord := [0, 1, 2, 3, 4, 5, 6, 7, 8]) <;> first | kernel_rfl | skip)
   | (apply z50 (id := 22) (ord := [0, 1, 2, 3, 4, 5, 6, 7, 8]) <;> first | kernel_rfl | skip)
   | (apply z51 (id := 26) (ord := [0, 2, 3, 1, 4, 5, 6, 7, 8, 9]) (ps := [(2, 3)]) <;> first | kernel_rfl | skip)
   | (apply z50 (id := 35) (ord := [0, 1, 2, 3, 4, 5, 6, 7, 8, 9]) <;> first | kernel_rfl | skip)
   | (refine zs ?_; repeat' first | apply zs0 | apply zs2 | (intro hc; try have hq := dq hc)) | fail
  refine lp_then (lp_any (c := loopAt Tryz.f15 3) rfl (l2 _ _ _ ⟨junk, rfl, by (simp only [seval, push_cast, *] <;> rfl), by (simp only [seval, push_cast, *] <;> rfl), ⟨rfl⟩⟩)) ?_
  clear l2
  rintro ex ρ' H2 ⟨junk, rfl, ⟨rfl, g2, g1⟩ | ⟨rfl, g2, g3, g4⟩⟩ hf
  case inr =>
    rw [if_pos g4]
    clear g4
    repeat' first
     | (apply z50 (id := 17) (ord := [0, 1, 2, 3, 4, 5, 6, 7, 8]) <;> first | kernel_rfl | skip)
     | (apply z50 (id := 22) (ord := [0, 1, 2, 3, 4, 5, 6, 7, 8]) <;> first | kernel_rfl | skip)
     | (apply z51 (id := 26) (ord := [0, 2, 3, 1, 4, 5, 6, 7, 8, 9]) (ps := [(2, 3)]) <;> first | kernel_rfl | skip)
     | (apply z50 (id := 35) (ord := [0, 1, 2, 3, 4, 5, 6, 7, 8, 9]) <;> first | kernel_rfl | skip)
     | (refine zs ?_; repeat' first | apply zs0 | apply zs2 | (intro hc; try have hq := dq hc)) | fail
  rw [g2, if_neg (by decide)]
  clear hf g2
  repeat' first
   | (apply z50 (id := 17) (ord := [0, 1, 2, 3, 4, 5, 6, 7, 8]) <;> first | kernel_rfl | skip)
   | (apply z50 (id := 22) (ord := [0, 1, 2, 3, 4, 5, 6, 7, 8]) <;> first | kernel_rfl | skip)
   | (apply z51 (id := 26) (ord := [0, 2, 3, 1, 4, 5, 6, 7, 8, 9]) (ps := [(2, 3)]) <;> first | kernel_rfl | skip)
   | (apply z50 (id := 35) (ord := [0, 1, 2, 3, 4, 5, 6, 7, 8, 9]) <;> first | kernel_rfl | skip)
   | (refine zs ?_; repeat' first | apply zs0 | apply zs2 | (intro hc; try have hq := dq hc)) | fail

end Go.E
/- Contracts of the references' base, in E: copies, comparisons. Own work. -/
namespace Go.E
open Go.Proofs
set_option maxRecDepth 100000
set_option maxHeartbeats 4000000

theorem bs_copyInts (bs : List Nat) (H : Heap) (l : List Int) (hl : l.length ≤ 1000000) : callw X bs 20 [.list (l.map (.int .i64))] H = some (.list (l.map (.int .i64)), H) := by
  refine call_at (rs := [.tmp 2]) (N := 6) (fn := Tryz.f20) xk20 xf20 rfl rfl rfl (by simp only [seval, push_cast, List.map_cons, List.map_nil, V.norm, norm1]; rfl) ?_
  have h := room_of (k := 8) hl (by omega)
  all_goals try (refine zs ?_; repeat' first | apply zs0 | apply zs2 | (intro hc; try have hq := dq hc))

theorem bs_copyPorts (bs : List Nat) (H : Heap) (l : List Port) (hl : l.length ≤ 1000000) : callw X bs 77 [.list (l.map encPort)] H = some (.list (l.map encPort), H) := by
  refine call_at (rs := [.tmp 2]) (N := 6) (fn := Tryz.f77) xk77 xf77 rfl rfl rfl (by simp only [seval, push_cast, List.map_cons, List.map_nil, V.norm, norm1]; rfl) ?_
  have h := room_of (k := 24) hl (by omega)
  all_goals try (refine zs ?_; repeat' first | apply zs0 | apply zs2 | (intro hc; try have hq := dq hc))

theorem bs_copyOutputs (bs : List Nat) (H : Heap) (l : List Outp) (hl : l.length ≤ 1000000) : callw X bs 79 [.list (l.map encOutp)] H = some (.list (l.map encOutp), H) := by
  refine call_at (rs := [.tmp 2]) (N := 6) (fn := Tryz.f79) xk79 xf79 rfl rfl rfl (by simp only [seval, push_cast, List.map_cons, List.map_nil, V.norm, norm1]; rfl) ?_
  have h := room_of (k := 24) hl (by omega)
  all_goals try (refine zs ?_; repeat' first | apply zs0 | apply zs2 | (intro hc; try have hq := dq hc))

theorem bs_netResets (bs : List Nat) (H : Heap) (n : Netl) (hr : n.regs.length ≤ 1000) : callw X bs 17 [encNetl n] H = some (.list (n.regs.map (fun r : Reg => .int .i64 r.init)), H) := by
  refine call_at (rs := [.tmp 2]) (N := 26) (fn := Tryz.f17) xk17 xf17 rfl rfl rfl (by simp only [seval, push_cast, List.map_cons, List.map_nil, V.norm, norm1]; rfl) ?_
  have key : ∀ (t : HObj) (bs : List Nat) i ρ H', i ≤ n.regs.length → (H' = H ++ [.cells (cellsNetl n), t, .arr (fill (fun r : Reg => .int .i64 r.init) (.int .i64 0) n.regs i) 0] ∧ ρ 1 = .ptr H.length 0 ∧ ρ 3 = .ref 1 (H.length + 2) 0 0 n.regs.length ∧ ρ 4 = .int .i64 i) →
      Lp X ⟨26, bs⟩ (loopAt Tryz.f17 0) ρ H' fun ex ρ' H' => H' = H ++ [.cells (cellsNetl n), t, .arr (n.regs.map (fun r : Reg => .int .i64 r.init)) 0] ∧ ρ' 3 = .ref 1 (H.length + 2) 0 0 n.regs.length ∧ ex = .exit 0 := by
    intro t bs
    refine loop_up ?_ ?_
    · rintro i ρ H' hlt ⟨rfl, h1, h3, h4⟩
      have hget : n.regs[i]? = some n.regs[i] := by simp [hlt]
      have hw := add1 i n.regs.length hlt (by omega)
      have hg := fill_get (fun r : Reg => .int .i64 r.init) (.int .i64 0) n.regs i hlt
      have hs := fill_set (fun r : Reg => .int .i64 r.init) (.int .i64 0) n.regs i n.regs[i] hget
      generalize n.regs[i] = p at hget hs
      conv => arg 3; whnf
      all_goals try (refine zs ?_; repeat' first | apply zs0 | apply zs2 | (intro hc; try have hq := dq hc))
      exact ⟨by simp only [cellsNetl], by (simp only [seval, push_cast, *] <;> rfl), by (simp only [seval, push_cast, *] <;> rfl), by (simp only [seval, push_cast, *] <;> rfl)⟩
    · rintro ρ H' ⟨rfl, h1, h3, h4⟩
      rw [fill_end]
      conv => arg 3; whnf
      all_goals try (refine zs ?_; repeat' first | apply zs0 | apply zs2 | (intro hc; try have hq := dq hc))
      exact ⟨by simp only [cellsNetl], by (simp only [seval, push_cast, *] <;> rfl), rfl⟩
  have h1 := room_of (n := n.regs.length) (k := 8) (by omega) (by omega)
  have h2 := room_int (n := n.regs.length) (by omega)
  have h3 := fill_0 (fun r : Reg => .int .i64 r.init) (.int .i64 0) n.regs
  replace h3 : Kp (fill (fun r : Reg => .int .i64 r.init) (.int .i64 0) n.regs 0 = List.replicate n.regs.length (.int .i64 0)) := ⟨h3⟩
  all_goals try (refine zs ?_; repeat' first | apply zs0 | apply zs2 | (intro hc; try have hq := dq hc))
  refine lp_then (lp_any (c := loopAt Tryz.f17 0) rfl (key _ _ 0 _ _ (by omega) ⟨by rw [h3.out]; rfl, by (simp only [seval, push_cast, *] <;> rfl), by (simp only [seval, push_cast, *] <;> rfl), by (simp only [seval, push_cast, *] <;> rfl)⟩)) ?_
  rintro ex ρ' H' ⟨rfl, f3, rfl⟩ hf
  all_goals try (refine zs ?_; repeat' first | apply zs0 | apply zs2 | (intro hc; try have hq := dq hc))

theorem bs_ints (bs : List Nat) (H : Heap) (a b : List Int) (ha : a.length ≤ 1000000) (hb : b.length ≤ 1000000) : callw X bs 16 [.list (a.map (.int .i64)), .list (b.map (.int .i64))] H = some (.bool (decide (a = b)), H) := by
  refine call_at (rs := [.tmp 4]) (N := 26) (fn := Tryz.f16) xk16 xf16 rfl rfl rfl (by simp only [seval, push_cast, List.map_cons, List.map_nil, V.norm, norm1]; rfl) ?_
  rcases Classical.em (a.length = b.length) with hab | hab
  · have key : ∀ (bs : List Nat) i ρ H', i ≤ a.length → (H' = H ∧ ρ 0 = .list (a.map (.int .i64)) ∧ ρ 1 = .list (b.map (.int .i64)) ∧ ρ 5 = .int .i64 i ∧ Kp (a.take i = b.take i)) →
      Lp X ⟨26, bs⟩ (loopAt Tryz.f16 0) ρ H' fun ex ρ' H' => H' = H ∧ ((a = b ∧ ex = .exit 0) ∨ (a ≠ b ∧ ρ' 4 = .bool false ∧ ex = .ret)) := by
      intro bs
      refine loop_up ?_ ?_
      · rintro i ρ H' hlt ⟨rfl, h0, h1, h5, hk⟩
        have hget : a[i]? = some a[i] := by simp [hlt]
        have hgetb : b[i]? = some b[i] := by simp [hab ▸ hlt]
        have hw := add1 i a.length hlt (by omega)
        have hn := take_step hget hgetb hk.out
        generalize a[i] = x at hget hn
        generalize b[i] = y at hgetb hn
        rcases Classical.em (x = y) with hxy | hxy
        · have hk2 := Kp.mk (hn.1 hxy)
          conv => arg 3; whnf
          repeat' first
           | (apply z50 (id := 6) (ord := [0, 1, 2, 3, 4, 5, 6, 7, 8]) <;> first | kernel_rfl | skip)
           | (refine zs ?_; repeat' first | apply zs0 | apply zs2 | (intro hc; try have hq := dq hc)) | fail
          exact ⟨by (simp only [seval, push_cast, *] <;> rfl), by (simp only [seval, push_cast, *] <;> rfl), by (simp only [seval, push_cast, *] <;> rfl), by (simp only [seval, push_cast, *] <;> rfl), hk2⟩
        · have hk2 := Kp.mk (hn.2 hxy)
          conv => arg 3; whnf
          repeat' first
           | (apply z50 (id := 6) (ord := [0, 1, 2, 3, 4, 5, 6, 7, 8]) <;> first | kernel_rfl | skip)
           | (refine zs ?_; repeat' first | apply zs0 | apply zs2 | (intro hc; try have hq := dq hc)) | fail
          exact ⟨by (simp only [seval, push_cast, *] <;> rfl), .inr ⟨hk2.out, by (simp only [seval, push_cast, *] <;> rfl), rfl⟩⟩
      · rintro ρ H' ⟨rfl, h0, h1, h5, hk⟩
        have hk2 : Kp (a = b) := ⟨by have := hk.out; rw [hab, List.take_length, ← hab, List.take_length] at this; exact this⟩
        conv => arg 3; whnf
        repeat' first
         | (apply z50 (id := 6) (ord := [0, 1, 2, 3, 4, 5, 6, 7, 8]) <;> first | kernel_rfl | skip)
         | (refine zs ?_; repeat' first | apply zs0 | apply zs2 | (intro hc; try have hq := dq hc)) | fail
        exact ⟨by (simp only [seval, push_cast, *] <;> rfl), .inl ⟨hk2.out, rfl⟩⟩
    repeat' first
     | (apply z50 (id := 6) (ord := [0, 1, 2, 3, 4, 5, 6, 7, 8]) <;> first | kernel_rfl | skip)
     | (refine zs ?_; repeat' first | apply zs0 | apply zs2 | (intro hc; try have hq := dq hc)) | fail
    refine lp_then (lp_any (c := loopAt Tryz.f16 0) rfl (key _ 0 _ _ (by omega) ⟨rfl, by (simp only [seval, push_cast, *] <;> rfl), by (simp only [seval, push_cast, *] <;> rfl), by (simp only [seval, push_cast, *] <;> rfl), ⟨rfl⟩⟩)) ?_
    rintro ex ρ' H' ⟨rfl, ⟨he, rfl⟩ | ⟨he, f4, rfl⟩⟩ hf
    · clear key
      repeat' first
       | (apply z50 (id := 6) (ord := [0, 1, 2, 3, 4, 5, 6, 7, 8]) <;> first | kernel_rfl | skip)
       | (refine zs ?_; repeat' first | apply zs0 | apply zs2 | (intro hc; try have hq := dq hc)) | fail
    · clear key
      repeat' first
       | (apply z50 (id := 6) (ord := [0, 1, 2, 3, 4, 5, 6, 7, 8]) <;> first | kernel_rfl | skip)
       | (refine zs ?_; repeat' first | apply zs0 | apply zs2 | (intro hc; try have hq := dq hc)) | fail
  · have hne : ¬ a = b := fun h => hab (h ▸ rfl)
    repeat' first
     | (apply z50 (id := 6) (ord := [0, 1, 2, 3, 4, 5, 6, 7, 8]) <;> first | kernel_rfl | skip)
     | (refine zs ?_; repeat' first | apply zs0 | apply zs2 | (intro hc; try have hq := dq hc)) | fail

end Go.E
/- Contracts of the references' base, in E: whether netlists are the same. Own work. -/
namespace Go.E
open Go.Proofs
set_option maxRecDepth 100000
set_option maxHeartbeats 4000000
deriving instance DecidableEq for Port
deriving instance DecidableEq for Reg
deriving instance DecidableEq for Node
deriving instance DecidableEq for Outp
deriving instance DecidableEq for Netl
theorem eqT_int {P : Program} {d : Nat} {t : TypeId} {k : IntKind} {a b : Int} (h : P.underlying t = some (.int k)) : eqT P (d + 1) t (.int k a) (.int k b) = some (decide (a = b)) := by
  rw [eqT]
  rotate_left 2
  exact h
  simp only [if_true]; rfl
theorem eqT_str {P : Program} {d : Nat} {t : TypeId} {a b : ByteArray} (h : P.underlying t = some .string) : eqT P (d + 1) t (.str a) (.str b) = some (decide (a = b)) := by
  rw [eqT]; exact h
theorem eqT_i (a b : Int) : eqT Tryz.prog 99 3 (.int .i64 a) (.int .i64 b) = some (decide (a = b)) := eqT_int (d := 98) Tryz.underlying3
theorem eqT_s (a b : ByteArray) : eqT Tryz.prog 99 9 (.str a) (.str b) = some (decide (a = b)) := eqT_str (d := 98) Tryz.underlying9
theorem ne_port (x y : Port) : binOpV Tryz.prog .neq 93 (encPort x) (encPort y) = some (.bool (!decide (x = y))) := by
  have hg : Program.eqGuardType Tryz.prog Tryz.prog.depth 93 = false := by kernel_rfl
  have hs : Tryz.prog.stoodInHeld 93 = false := by kernel_rfl
  have e : decide (x = y) = (decide (x.name = y.name) && decide (x.width = y.width)) := by
    obtain ⟨a, b⟩ := x; obtain ⟨c, d⟩ := y
    simp only [Port.mk.injEq, Bool.decide_and]
  rw [e]
  simp only [binOpV, eqlOp, encPort, hg, Bool.false_eq_true, if_false]
  rw [eqT]
  rotate_left 2
  exact Tryz.underlying93
  simp only [hs, Bool.false_eq_true, if_false, List.toList_toArray, List.foldr_cons, List.foldr_nil, partV, ag9, sz9, ag3, sz3, List.getElem?_cons_zero, List.getElem?_cons_succ, Option.bind_some, eqT_i, eqT_s]
  by_cases h1 : x.name = y.name <;> by_cases h2 : x.width = y.width <;> simp [h1, h2]
theorem ne_outp (x y : Outp) : binOpV Tryz.prog .neq 97 (encOutp x) (encOutp y) = some (.bool (!decide (x = y))) := by
  have hg : Program.eqGuardType Tryz.prog Tryz.prog.depth 97 = false := by kernel_rfl
  have hs : Tryz.prog.stoodInHeld 97 = false := by kernel_rfl
  have e : decide (x = y) = (decide (x.name = y.name) && decide (x.node = y.node)) := by
    obtain ⟨a, b⟩ := x; obtain ⟨c, d⟩ := y
    simp only [Outp.mk.injEq, Bool.decide_and]
  rw [e]
  simp only [binOpV, eqlOp, encOutp, hg, Bool.false_eq_true, if_false]
  rw [eqT]
  rotate_left 2
  exact Tryz.underlying97
  simp only [hs, Bool.false_eq_true, if_false, List.toList_toArray, List.foldr_cons, List.foldr_nil, partV, ag9, sz9, ag3, sz3, List.getElem?_cons_zero, List.getElem?_cons_succ, Option.bind_some, eqT_i, eqT_s]
  by_cases h1 : x.name = y.name <;> by_cases h2 : x.node = y.node <;> simp [h1, h2]
theorem ne_reg (x y : Reg) : binOpV Tryz.prog .neq 95 (encReg x) (encReg y) = some (.bool (!decide (x = y))) := by
  have hg : Program.eqGuardType Tryz.prog Tryz.prog.depth 95 = false := by kernel_rfl
  have hs : Tryz.prog.stoodInHeld 95 = false := by kernel_rfl
  have e : decide (x = y) = (decide (x.name = y.name) && (decide (x.width = y.width) && (decide (x.init = y.init) && (decide (x.enable = y.enable) && decide (x.next = y.next))))) := by
    obtain ⟨a, b, c, d, e⟩ := x; obtain ⟨a', b', c', d', e'⟩ := y
    simp only [Reg.mk.injEq, Bool.decide_and]
  rw [e]
  simp only [binOpV, eqlOp, encReg, hg, Bool.false_eq_true, if_false]
  rw [eqT]
  rotate_left 2
  exact Tryz.underlying95
  simp only [hs, Bool.false_eq_true, if_false, List.toList_toArray, List.foldr_cons, List.foldr_nil, partV, ag9, sz9, ag3, sz3, List.getElem?_cons_zero, List.getElem?_cons_succ, Option.bind_some, eqT_i, eqT_s]
  by_cases h1 : x.name = y.name <;> by_cases h2 : x.width = y.width <;> by_cases h3 : x.init = y.init <;> by_cases h4 : x.enable = y.enable <;> by_cases h5 : x.next = y.next <;> simp [h1, h2, h3, h4, h5]

theorem bs_samePorts (bs : List Nat) (H : Heap) (a b : List Port) (ha : a.length ≤ 1000000) (hb : b.length ≤ 1000000) : callw X bs 103 [.list (a.map encPort), .list (b.map encPort)] H = some (.bool (decide (a = b)), H) := by
  refine call_at (rs := [.tmp 4]) (N := 26) (fn := Tryz.f103) xk103 xf103 rfl rfl rfl (by simp only [seval, push_cast, List.map_cons, List.map_nil, V.norm, norm1]; rfl) ?_
  rcases Classical.em (a.length = b.length) with hab | hab
  · have key : ∀ (bs : List Nat) i ρ H', i ≤ a.length → (H' = H ∧ ρ 0 = .list (a.map encPort) ∧ ρ 1 = .list (b.map encPort) ∧ ρ 5 = .int .i64 i ∧ Kp (a.take i = b.take i)) →
      Lp X ⟨26, bs⟩ (loopAt Tryz.f103 0) ρ H' fun ex ρ' H' => H' = H ∧ ((a = b ∧ ex = .exit 0) ∨ (a ≠ b ∧ ρ' 4 = .bool false ∧ ex = .ret)) := by
      intro bs
      refine loop_up ?_ ?_
      · rintro i ρ H' hlt ⟨rfl, h0, h1, h5, hk⟩
        have hget : a[i]? = some a[i] := by simp [hlt]
        have hgetb : b[i]? = some b[i] := by simp [hab ▸ hlt]
        have hw := add1 i a.length hlt (by omega)
        have hn := take_step hget hgetb hk.out
        generalize a[i] = x at hget hn
        generalize b[i] = y at hgetb hn
        have hq := ne_port x y
        simp only [encPort] at hq
        rcases Classical.em (x = y) with hxy | hxy
        · have hk2 := Kp.mk (hn.1 hxy)
          rw [decide_eq_true hxy] at hq
          clear hxy hn
          conv => arg 3; whnf
          repeat' first
           | (apply z50 (id := 6) (ord := [0, 1, 2, 3, 4, 5, 6, 7, 8]) <;> first | kernel_rfl | skip)
           | (refine zs ?_; repeat' first | apply zs0 | apply zs2 | (intro hc; try have hq := dq hc)) | fail
          exact ⟨by (simp only [seval, push_cast, *] <;> rfl), by (simp only [seval, push_cast, *] <;> rfl), by (simp only [seval, push_cast, *] <;> rfl), by (simp only [seval, push_cast, *] <;> rfl), hk2⟩
        · have hk2 := Kp.mk (hn.2 hxy)
          rw [decide_eq_false hxy] at hq
          clear hxy hn
          conv => arg 3; whnf
          repeat' first
           | (apply z50 (id := 6) (ord := [0, 1, 2, 3, 4, 5, 6, 7, 8]) <;> first | kernel_rfl | skip)
           | (refine zs ?_; repeat' first | apply zs0 | apply zs2 | (intro hc; try have hq := dq hc)) | fail
          exact ⟨by (simp only [seval, push_cast, *] <;> rfl), .inr ⟨hk2.out, by (simp only [seval, push_cast, *] <;> rfl), rfl⟩⟩
      · rintro ρ H' ⟨rfl, h0, h1, h5, hk⟩
        have hk2 : Kp (a = b) := ⟨by have := hk.out; rw [hab, List.take_length, ← hab, List.take_length] at this; exact this⟩
        conv => arg 3; whnf
        repeat' first
         | (apply z50 (id := 6) (ord := [0, 1, 2, 3, 4, 5, 6, 7, 8]) <;> first | kernel_rfl | skip)
         | (refine zs ?_; repeat' first | apply zs0 | apply zs2 | (intro hc; try have hq := dq hc)) | fail
        exact ⟨by (simp only [seval, push_cast, *] <;> rfl), .inl ⟨hk2.out, rfl⟩⟩
    repeat' first
     | (apply z50 (id := 6) (ord := [0, 1, 2, 3, 4, 5, 6, 7, 8]) <;> first | kernel_rfl | skip)
     | (refine zs ?_; repeat' first | apply zs0 | apply zs2 | (intro hc; try have hq := dq hc)) | fail
    refine lp_then (lp_any (c := loopAt Tryz.f103 0) rfl (key _ 0 _ _ (by omega) ⟨rfl, by (simp only [seval, push_cast, *] <;> rfl), by (simp only [seval, push_cast, *] <;> rfl), by (simp only [seval, push_cast, *] <;> rfl), ⟨rfl⟩⟩)) ?_
    rintro ex ρ' H' ⟨rfl, ⟨he, rfl⟩ | ⟨he, f4, rfl⟩⟩ hf
    · clear key
      repeat' first
       | (apply z50 (id := 6) (ord := [0, 1, 2, 3, 4, 5, 6, 7, 8]) <;> first | kernel_rfl | skip)
       | (refine zs ?_; repeat' first | apply zs0 | apply zs2 | (intro hc; try have hq := dq hc)) | fail
    · clear key
      repeat' first
       | (apply z50 (id := 6) (ord := [0, 1, 2, 3, 4, 5, 6, 7, 8]) <;> first | kernel_rfl | skip)
       | (refine zs ?_; repeat' first | apply zs0 | apply zs2 | (intro hc; try have hq := dq hc)) | fail
  · have hne : ¬ a = b := fun h => hab (h ▸ rfl)
    repeat' first
     | (apply z50 (id := 6) (ord := [0, 1, 2, 3, 4, 5, 6, 7, 8]) <;> first | kernel_rfl | skip)
     | (refine zs ?_; repeat' first | apply zs0 | apply zs2 | (intro hc; try have hq := dq hc)) | fail

theorem bs_sameOutputs (bs : List Nat) (H : Heap) (a b : List Outp) (ha : a.length ≤ 1000000) (hb : b.length ≤ 1000000) : callw X bs 105 [.list (a.map encOutp), .list (b.map encOutp)] H = some (.bool (decide (a = b)), H) := by
  refine call_at (rs := [.tmp 4]) (N := 26) (fn := Tryz.f105) xk105 xf105 rfl rfl rfl (by simp only [seval, push_cast, List.map_cons, List.map_nil, V.norm, norm1]; rfl) ?_
  rcases Classical.em (a.length = b.length) with hab | hab
  · have key : ∀ (bs : List Nat) i ρ H', i ≤ a.length → (H' = H ∧ ρ 0 = .list (a.map encOutp) ∧ ρ 1 = .list (b.map encOutp) ∧ ρ 5 = .int .i64 i ∧ Kp (a.take i = b.take i)) →
      Lp X ⟨26, bs⟩ (loopAt Tryz.f105 0) ρ H' fun ex ρ' H' => H' = H ∧ ((a = b ∧ ex = .exit 0) ∨ (a ≠ b ∧ ρ' 4 = .bool false ∧ ex = .ret)) := by
      intro bs
      refine loop_up ?_ ?_
      · rintro i ρ H' hlt ⟨rfl, h0, h1, h5, hk⟩
        have hget : a[i]? = some a[i] := by simp [hlt]
        have hgetb : b[i]? = some b[i] := by simp [hab ▸ hlt]
        have hw := add1 i a.length hlt (by omega)
        have hn := take_step hget hgetb hk.out
        generalize a[i] = x at hget hn
        generalize b[i] = y at hgetb hn
        have hq := ne_outp x y
        simp only [encOutp] at hq
        rcases Classical.em (x = y) with hxy | hxy
        · have hk2 := Kp.mk (hn.1 hxy)
          rw [decide_eq_true hxy] at hq
          clear hxy hn
          conv => arg 3; whnf
          repeat' first
           | (apply z50 (id := 6) (ord := [0, 1, 2, 3, 4, 5, 6, 7, 8]) <;> first | kernel_rfl | skip)
           | (refine zs ?_; repeat' first | apply zs0 | apply zs2 | (intro hc; try have hq := dq hc)) | fail
          exact ⟨by (simp only [seval, push_cast, *] <;> rfl), by (simp only [seval, push_cast, *] <;> rfl), by (simp only [seval, push_cast, *] <;> rfl), by (simp only [seval, push_cast, *] <;> rfl), hk2⟩
        · have hk2 := Kp.mk (hn.2 hxy)
          rw [decide_eq_false hxy] at hq
          clear hxy hn
          conv => arg 3; whnf
          repeat' first
           | (apply z50 (id := 6) (ord := [0, 1, 2, 3, 4, 5, 6, 7, 8]) <;> first | kernel_rfl | skip)
           | (refine zs ?_; repeat' first | apply zs0 | apply zs2 | (intro hc; try have hq := dq hc)) | fail
          exact ⟨by (simp only [seval, push_cast, *] <;> rfl), .inr ⟨hk2.out, by (simp only [seval, push_cast, *] <;> rfl), rfl⟩⟩
      · rintro ρ H' ⟨rfl, h0, h1, h5, hk⟩
        have hk2 : Kp (a = b) := ⟨by have := hk.out; rw [hab, List.take_length, ← hab, List.take_length] at this; exact this⟩
        conv => arg 3; whnf
        repeat' first
         | (apply z50 (id := 6) (ord := [0, 1, 2, 3, 4, 5, 6, 7, 8]) <;> first | kernel_rfl | skip)
         | (refine zs ?_; repeat' first | apply zs0 | apply zs2 | (intro hc; try have hq := dq hc)) | fail
        exact ⟨by (simp only [seval, push_cast, *] <;> rfl), .inl ⟨hk2.out, rfl⟩⟩
    repeat' first
     | (apply z50 (id := 6) (ord := [0, 1, 2, 3, 4, 5, 6, 7, 8]) <;> first | kernel_rfl | skip)
     | (refine zs ?_; repeat' first | apply zs0 | apply zs2 | (intro hc; try have hq := dq hc)) | fail
    refine lp_then (lp_any (c := loopAt Tryz.f105 0) rfl (key _ 0 _ _ (by omega) ⟨rfl, by (simp only [seval, push_cast, *] <;> rfl), by (simp only [seval, push_cast, *] <;> rfl), by (simp only [seval, push_cast, *] <;> rfl), ⟨rfl⟩⟩)) ?_
    rintro ex ρ' H' ⟨rfl, ⟨he, rfl⟩ | ⟨he, f4, rfl⟩⟩ hf
    · clear key
      repeat' first
       | (apply z50 (id := 6) (ord := [0, 1, 2, 3, 4, 5, 6, 7, 8]) <;> first | kernel_rfl | skip)
       | (refine zs ?_; repeat' first | apply zs0 | apply zs2 | (intro hc; try have hq := dq hc)) | fail
    · clear key
      repeat' first
       | (apply z50 (id := 6) (ord := [0, 1, 2, 3, 4, 5, 6, 7, 8]) <;> first | kernel_rfl | skip)
       | (refine zs ?_; repeat' first | apply zs0 | apply zs2 | (intro hc; try have hq := dq hc)) | fail
  · have hne : ¬ a = b := fun h => hab (h ▸ rfl)
    repeat' first
     | (apply z50 (id := 6) (ord := [0, 1, 2, 3, 4, 5, 6, 7, 8]) <;> first | kernel_rfl | skip)
     | (refine zs ?_; repeat' first | apply zs0 | apply zs2 | (intro hc; try have hq := dq hc)) | fail

theorem bs_sameNodes (bs : List Nat) (H : Heap) (a b : List Node) (ha : a.length ≤ 1000000) (hb : b.length ≤ 1000000) (haa : ∀ x ∈ a, x.args.length ≤ 1000000) (hbb : ∀ x ∈ b, x.args.length ≤ 1000000) : callw X bs 104 [.list (a.map encNode), .list (b.map encNode)] H = some (.bool (decide (a = b)), H) := by
  refine call_at (rs := [.tmp 4]) (N := 68) (fn := Tryz.f104) xk104 xf104 rfl rfl rfl (by simp only [seval, push_cast, List.map_cons, List.map_nil, V.norm, norm1]; rfl) ?_
  rcases Classical.em (a.length = b.length) with hab | hab
  · have key : ∀ (bs : List Nat) i ρ H', i ≤ a.length → (H' = H ∧ ρ 0 = .list (a.map encNode) ∧ ρ 1 = .list (b.map encNode) ∧ ρ 5 = .int .i64 i ∧ Kp (a.take i = b.take i)) →
      Lp X ⟨68, bs⟩ (loopAt Tryz.f104 0) ρ H' fun ex ρ' H' => H' = H ∧ ((a = b ∧ ex = .exit 0) ∨ (a ≠ b ∧ ρ' 4 = .bool false ∧ ex = .ret)) := by
      intro bs
      refine loop_up ?_ ?_
      · rintro i ρ H' hlt ⟨rfl, h0, g1, h5, hk⟩
        have hget : a[i]? = some a[i] := by simp [hlt]
        have hgetb : b[i]? = some b[i] := by simp [hab ▸ hlt]
        have hw := add1 i a.length hlt (by omega)
        have hn := take_step hget hgetb hk.out
        have hai := fun bs H => bs_ints bs H a[i].args b[i].args (haa _ (List.getElem_mem _)) (hbb _ (List.getElem_mem _))
        generalize a[i] = x at hget hn hai
        generalize b[i] = y at hgetb hn hai
        clear haa hbb
        by_cases h1 : x.op = y.op
        case neg =>
          have hk2 := Kp.mk (hn.2 (fun e => h1 (by rw [e])))
          have d1 : (decide ¬ x.op = y.op) = true := decide_eq_true h1
          clear h1 hn
          conv => arg 3; whnf
          repeat' first
           | (apply z50 (id := 6) (ord := [0, 1, 2, 3, 4, 5, 6, 7, 8, 9, 10, 11, 12, 13, 14, 15, 16, 17, 18, 19, 20, 21, 22, 23, 24, 25, 26, 27, 28, 29, 30, 31, 32, 33, 34, 35, 36, 37, 38, 39, 40, 41, 42, 43, 44, 45, 46, 47, 48, 49, 50]) <;> first | kernel_rfl | skip)
           | (refine zs ?_; repeat' first | apply zs0 | apply zs2 | (intro hc; try have hq := dq hc)) | fail
          exact ⟨by (simp only [seval, push_cast, *] <;> rfl), .inr ⟨hk2.out, by (simp only [seval, push_cast, *] <;> rfl), rfl⟩⟩
        have d1 : (decide ¬ x.op = y.op) = false := decide_eq_false (by simpa using h1)
        by_cases h2 : x.width = y.width
        case neg =>
          have hk2 := Kp.mk (hn.2 (fun e => h2 (by rw [e])))
          have d2 : (decide ¬ x.width = y.width) = true := decide_eq_true h2
          clear h2 hn
          conv => arg 3; whnf
          repeat' first
           | (apply z50 (id := 6) (ord := [0, 1, 2, 3, 4, 5, 6, 7, 8, 9, 10, 11, 12, 13, 14, 15, 16, 17, 18, 19, 20, 21, 22, 23, 24, 25, 26, 27, 28, 29, 30, 31, 32, 33, 34, 35, 36, 37, 38, 39, 40, 41, 42, 43, 44, 45, 46, 47, 48, 49, 50]) <;> first | kernel_rfl | skip)
           | (refine zs ?_; repeat' first | apply zs0 | apply zs2 | (intro hc; try have hq := dq hc)) | fail
          exact ⟨by (simp only [seval, push_cast, *] <;> rfl), .inr ⟨hk2.out, by (simp only [seval, push_cast, *] <;> rfl), rfl⟩⟩
        have d2 : (decide ¬ x.width = y.width) = false := decide_eq_false (by simpa using h2)
        by_cases h3 : x.value = y.value
        case neg =>
          have hk2 := Kp.mk (hn.2 (fun e => h3 (by rw [e])))
          have d3 : (decide ¬ x.value = y.value) = true := decide_eq_true h3
          clear h3 hn
          conv => arg 3; whnf
          repeat' first
           | (apply z50 (id := 6) (ord := [0, 1, 2, 3, 4, 5, 6, 7, 8, 9, 10, 11, 12, 13, 14, 15, 16, 17, 18, 19, 20, 21, 22, 23, 24, 25, 26, 27, 28, 29, 30, 31, 32, 33, 34, 35, 36, 37, 38, 39, 40, 41, 42, 43, 44, 45, 46, 47, 48, 49, 50]) <;> first | kernel_rfl | skip)
           | (refine zs ?_; repeat' first | apply zs0 | apply zs2 | (intro hc; try have hq := dq hc)) | fail
          exact ⟨by (simp only [seval, push_cast, *] <;> rfl), .inr ⟨hk2.out, by (simp only [seval, push_cast, *] <;> rfl), rfl⟩⟩
        have d3 : (decide ¬ x.value = y.value) = false := decide_eq_false (by simpa using h3)
        by_cases h4 : x.args = y.args
        case neg =>
          have hk2 := Kp.mk (hn.2 (fun e => h4 (by rw [e])))
          rw [decide_eq_false h4] at hai
          clear h4 hn h1 h2 h3
          conv => arg 3; whnf
          repeat' first
           | (apply z50 (id := 6) (ord := [0, 1, 2, 3, 4, 5, 6, 7, 8, 9, 10, 11, 12, 13, 14, 15, 16, 17, 18, 19, 20, 21, 22, 23, 24, 25, 26, 27, 28, 29, 30, 31, 32, 33, 34, 35, 36, 37, 38, 39, 40, 41, 42, 43, 44, 45, 46, 47, 48, 49, 50]) <;> first | kernel_rfl | skip)
           | (refine zs ?_; repeat' first | apply zs0 | apply zs2 | (intro hc; try have hq := dq hc)) | fail
          exact ⟨by (simp only [seval, push_cast, *] <;> rfl), .inr ⟨hk2.out, by (simp only [seval, push_cast, *] <;> rfl), rfl⟩⟩
        have hk2 := Kp.mk (hn.1 (by obtain ⟨a1, a2, a3, a4⟩ := x; obtain ⟨b1, b2, b3, b4⟩ := y; simp only at h1 h2 h3 h4; rw [h1, h2, h3, h4]))
        rw [decide_eq_true h4] at hai
        clear h4 hn h1 h2 h3
        conv => arg 3; whnf
        repeat' first
         | (apply z50 (id := 6) (ord := [0, 1, 2, 3, 4, 5, 6, 7, 8, 9, 10, 11, 12, 13, 14, 15, 16, 17, 18, 19, 20, 21, 22, 23, 24, 25, 26, 27, 28, 29, 30, 31, 32, 33, 34, 35, 36, 37, 38, 39, 40, 41, 42, 43, 44, 45, 46, 47, 48, 49, 50]) <;> first | kernel_rfl | skip)
         | (refine zs ?_; repeat' first | apply zs0 | apply zs2 | (intro hc; try have hq := dq hc)) | fail
        exact ⟨by (simp only [seval, push_cast, *] <;> rfl), by (simp only [seval, push_cast, *] <;> rfl), by (simp only [seval, push_cast, *] <;> rfl), by (simp only [seval, push_cast, *] <;> rfl), hk2⟩
      · rintro ρ H' ⟨rfl, h0, h1, h5, hk⟩
        have hk2 : Kp (a = b) := ⟨by have := hk.out; rw [hab, List.take_length, ← hab, List.take_length] at this; exact this⟩
        clear haa hbb
        conv => arg 3; whnf
        repeat' first
         | (apply z50 (id := 6) (ord := [0, 1, 2, 3, 4, 5, 6, 7, 8, 9, 10, 11, 12, 13, 14, 15, 16, 17, 18, 19, 20, 21, 22, 23, 24, 25, 26, 27, 28, 29, 30, 31, 32, 33, 34, 35, 36, 37, 38, 39, 40, 41, 42, 43, 44, 45, 46, 47, 48, 49, 50]) <;> first | kernel_rfl | skip)
         | (refine zs ?_; repeat' first | apply zs0 | apply zs2 | (intro hc; try have hq := dq hc)) | fail
        exact ⟨by (simp only [seval, push_cast, *] <;> rfl), .inl ⟨hk2.out, rfl⟩⟩
    clear haa hbb
    repeat' first
     | (apply z50 (id := 6) (ord := [0, 1, 2, 3, 4, 5, 6, 7, 8, 9, 10, 11, 12, 13, 14, 15, 16, 17, 18, 19, 20, 21, 22, 23, 24, 25, 26, 27, 28, 29, 30, 31, 32, 33, 34, 35, 36, 37, 38, 39, 40, 41, 42, 43, 44, 45, 46, 47, 48, 49, 50]) <;> first | kernel_rfl | skip)
     | (refine zs ?_; repeat' first | apply zs0 | apply zs2 | (intro hc; try have hq := dq hc)) | fail
    refine lp_then (lp_any (c := loopAt Tryz.f104 0) rfl (key _ 0 _ _ (by omega) ⟨rfl, by (simp only [seval, push_cast, *] <;> rfl), by (simp only [seval, push_cast, *] <;> rfl), by (simp only [seval, push_cast, *] <;> rfl), ⟨rfl⟩⟩)) ?_
    rintro ex ρ' H' ⟨rfl, ⟨he, rfl⟩ | ⟨he, f4, rfl⟩⟩ hf
    · clear key
      repeat' first
       | (apply z50 (id := 6) (ord := [0, 1, 2, 3, 4, 5, 6, 7, 8, 9, 10, 11, 12, 13, 14, 15, 16, 17, 18, 19, 20, 21, 22, 23, 24, 25, 26, 27, 28, 29, 30, 31, 32, 33, 34, 35, 36, 37, 38, 39, 40, 41, 42, 43, 44, 45, 46, 47, 48, 49, 50]) <;> first | kernel_rfl | skip)
       | (refine zs ?_; repeat' first | apply zs0 | apply zs2 | (intro hc; try have hq := dq hc)) | fail
    · clear key
      repeat' first
       | (apply z50 (id := 6) (ord := [0, 1, 2, 3, 4, 5, 6, 7, 8, 9, 10, 11, 12, 13, 14, 15, 16, 17, 18, 19, 20, 21, 22, 23, 24, 25, 26, 27, 28, 29, 30, 31, 32, 33, 34, 35, 36, 37, 38, 39, 40, 41, 42, 43, 44, 45, 46, 47, 48, 49, 50]) <;> first | kernel_rfl | skip)
       | (refine zs ?_; repeat' first | apply zs0 | apply zs2 | (intro hc; try have hq := dq hc)) | fail
  · have hne : ¬ a = b := fun h => hab (h ▸ rfl)
    clear haa hbb
    repeat' first
     | (apply z50 (id := 6) (ord := [0, 1, 2, 3, 4, 5, 6, 7, 8, 9, 10, 11, 12, 13, 14, 15, 16, 17, 18, 19, 20, 21, 22, 23, 24, 25, 26, 27, 28, 29, 30, 31, 32, 33, 34, 35, 36, 37, 38, 39, 40, 41, 42, 43, 44, 45, 46, 47, 48, 49, 50]) <;> first | kernel_rfl | skip)
     | (refine zs ?_; repeat' first | apply zs0 | apply zs2 | (intro hc; try have hq := dq hc)) | fail

end Go.E
/- Plain law of chapter 22: pairs in order, a search that halves, which pairs are a proof. Own work. -/
namespace Go.E
structure NPair where
  a : List Int
  b : List Int
def NPair.dec (p q : NPair) : Decidable (p = q) := decidable_of_iff (p.a = q.a ∧ p.b = q.b) (by cases p; cases q; simp)
instance : DecidableEq NPair := NPair.dec
def cmpP (p q : NPair) : Int := if cmpL p.a q.a ≠ 0 then cmpL p.a q.a else cmpL p.b q.b
def befP (p q : NPair) : Bool := befL p.a q.a || (decide (p.a = q.a) && befL p.b q.b)
theorem cmpP_lt (p q : NPair) : cmpP p q < 0 ↔ befP p q = true := by
  unfold cmpP befP
  by_cases h : p.a = q.a
  · rw [if_neg (by rw [ne_eq, cmpL_eq]; simpa using h), h, befL_irr, cmpL_lt]; simp
  · rw [if_pos (by rw [ne_eq, cmpL_eq]; exact h), cmpL_lt]; simp [h]
theorem cmpP_eq (p q : NPair) : cmpP p q = 0 ↔ p = q := by
  obtain ⟨a, b⟩ := p
  obtain ⟨c, d⟩ := q
  unfold cmpP
  simp only [NPair.mk.injEq]
  by_cases h : a = c
  · rw [if_neg (by rw [ne_eq, cmpL_eq]; simpa using h), cmpL_eq]; simp [h]
  · have := (not_congr (cmpL_eq a c)).2 h
    rw [if_pos this]; simp [this, h]
theorem befP_trans {p q r : NPair} (h : befP p q = true) (g : befP q r = true) : befP p r = true := by
  unfold befP at *
  simp only [Bool.or_eq_true, Bool.and_eq_true, decide_eq_true_eq] at *
  rcases h with h | ⟨h, h2⟩ <;> rcases g with g | ⟨g, g2⟩
  · exact .inl (befL_trans _ _ _ h g)
  · exact .inl (g ▸ h)
  · exact .inl (h ▸ g)
  · exact .inr ⟨h.trans g, befL_trans _ _ _ h2 g2⟩

/-! ### A search that halves -/
/-- Behind the last place at which c is below 0. -/
def part (c : Nat → Int) : Nat → Nat
  | 0 => 0
  | n + 1 => if c n < 0 then n + 1 else part c n
def Mono (c : Nat → Int) (n : Nat) : Prop := ∀ i j, i < j → j < n → c j < 0 → c i < 0
theorem part_le (c : Nat → Int) : ∀ n, part c n ≤ n
  | 0 => Nat.le_refl _
  | n + 1 => by rw [part]; split; exact Nat.le_refl _; exact Nat.le_succ_of_le (part_le c n)
theorem part_is {c : Nat → Int} {i : Nat} : ∀ {n}, i ≤ n → (∀ k, k < i → c k < 0) → (∀ k, i ≤ k → k < n → ¬ c k < 0) → part c n = i
  | 0, h, _, _ => by rw [part]; omega
  | n + 1, h, h1, h2 => by
    rw [part]
    split
    · rename_i hc
      rcases Nat.lt_or_ge i (n + 1) with g | g
      · exact absurd hc (h2 n (by omega) (by omega))
      · omega
    · rename_i hc
      rcases Nat.lt_or_ge i (n + 1) with g | g
      · exact part_is (by omega) h1 (fun k a b => h2 k a (by omega))
      · exact absurd (h1 n (by omega)) hc
theorem part_found {l : List NPair} (hs : ∀ (i j : Nat) p q, i < j → l[i]? = some p → l[j]? = some q → befP p q = true) (t : NPair) (c : Nat → Int) (hc : ∀ (k : Nat) p, l[k]? = some p → c k = cmpP p t) :
    Mono c l.length ∧ (decide (part c l.length < l.length) && decide (c (part c l.length) = 0)) = decide (t ∈ l) := by
  have hm : Mono c l.length := fun i j hij hj h => by
    have h1 : l[i]? = some (l[i]'(by omega)) := by simp [show i < l.length by omega]
    have h2 : l[j]? = some l[j] := by simp [hj]
    rw [hc i _ h1, cmpP_lt]
    rw [hc j _ h2, cmpP_lt] at h
    exact befP_trans (hs i j _ _ hij h1 h2) h
  refine ⟨hm, ?_⟩
  by_cases ht : t ∈ l
  · obtain ⟨k, hk⟩ := List.getElem?_of_mem ht
    have hk2 := (List.getElem?_eq_some_iff.1 hk).1
    have hp : part c l.length = k := by
      refine part_is (by omega) (fun i hi => ?_) (fun i hi hi2 => ?_)
      · have h1 : l[i]? = some (l[i]'(by omega)) := by simp [show i < l.length by omega]
        rw [hc i _ h1, cmpP_lt]
        exact hs i k _ _ hi h1 hk
      · have h1 : l[i]? = some (l[i]'(by omega)) := by simp [show i < l.length by omega]
        rw [hc i _ h1]
        rcases Nat.lt_or_eq_of_le hi with g | g
        · intro h
          have := befP_trans ((cmpP_lt _ _).1 h) (hs k i _ _ g hk h1)
          have h3 := (cmpP_lt _ _).2 this
          have h4 := (cmpP_eq (l[i]'(by omega)) (l[i]'(by omega))).2 rfl
          omega
        · subst g
          rw [hk] at h1
          obtain h1 := Option.some.inj h1
          rw [← h1, (cmpP_eq t t).2 rfl]; omega
    rw [hp, hc k t hk, (cmpP_eq t t).2 rfl]
    simp [hk2, ht]
  · simp only [ht, decide_false, Bool.and_eq_false_iff, decide_eq_false_iff_not]
    by_cases hl : part c l.length < l.length
    · refine .inr fun h => ht ?_
      have h1 : l[part c l.length]? = some l[part c l.length] := by simp [hl]
      rw [hc _ _ h1, cmpP_eq] at h
      rw [← h]
      exact List.getElem_mem hl
    · exact .inl hl

/-! ### What is asked of pairs -/
def pairAt (l : List NPair) (i : Nat) : NPair := l.getD i ⟨[], []⟩
def ordErrS (a b : Netl) (l : List NPair) (i : Nat) (p : NPair) : Int := firstL [stErrS a p.a, stErrS b p.b, if i = 0 ∨ befP (pairAt l (i - 1)) p = true then 0 else 9]
def nextP (a b : Netl) (p : NPair) (x : List Int) : NPair := ⟨(stepN a x p.a).2, (stepN b x p.b).2⟩
def resetP (a b : Netl) : NPair := ⟨a.regs.map (·.init), b.regs.map (·.init)⟩
def oneErrS (a b : Netl) (l : List NPair) (p : NPair) (x : List Int) : Int :=
  if (stepN a x p.a).1 = (stepN b x p.b).1 then (if nextP a b p x ∈ l then 0 else 21) else 19
def clErrS (a b : Netl) (ins : List (List Int)) (l : List NPair) (_ : Nat) (p : NPair) : Int := (eachP (fun _ x => oneErrS a b l p x) 0 ins).2
def pairsErrS (a b : Netl) (ins : List (List Int)) (l : List NPair) : Int × Int :=
  if 300 < l.length then (0, 8) else
  if (eachP (ordErrS a b l) 0 l).2 ≠ 0 then eachP (ordErrS a b l) 0 l else if resetP a b ∈ l then eachP (clErrS a b ins l) 0 l else (0, 6)
def outAs (a b : Netl) (p q : Outp) : Bool := decide (p.name = q.name) && decide (widthAt a p.node = widthAt b q.node)
def eqF {α : Type} (f : α → α → Bool) : List α → List α → Bool
  | [], [] => true
  | p :: r, q :: s => f p q && eqF f r s
  | _, _ => false
theorem eqF_len {α : Type} {f : α → α → Bool} : ∀ {l r : List α}, ¬ l.length = r.length → eqF f l r = false
  | [], [], h => absurd rfl h
  | [], _ :: _, _ => rfl
  | _ :: _, [], _ => rfl
  | p :: r, q :: s, h => by rw [eqF, eqF_len (by simpa using h), Bool.and_false]
def clashS (a b : Netl) : Bool := decide (a.inputs = b.inputs) && eqF (outAs a b) a.outs b.outs
def listsErrS (n : Netl) (l : List (List Int)) : Int := if l = [] then 10 else if 16 < l.length then 8 else (eachP (fun _ x => inErrS n x) 0 l).2
def twoErrS (a b : Netl) : Int := if (checkNetS a).2 ≠ 0 then (checkNetS a).2 else if (checkNetS b).2 ≠ 0 then (checkNetS b).2 else if clashS a b = true then 0 else 13
def bothErrS (a b : Netl) (l : List (List Int)) : Int := if twoErrS a b ≠ 0 then twoErrS a b else listsErrS a l
theorem firstL3 {a b c : Int} (h : firstL [a, b, c] = 0) : a = 0 ∧ b = 0 ∧ c = 0 := by
  by_cases h1 : a = 0
  · by_cases h2 : b = 0
    · by_cases h3 : c = 0
      · exact ⟨h1, h2, h3⟩
      · simp [firstL, h1, h2, h3] at h
    · simp [firstL, h1, h2] at h
  · simp [firstL, h1] at h
/-- Pairs without an error stand in order. -/
theorem ord_sorted {a b : Netl} {l : List NPair} (h : (eachP (ordErrS a b l) 0 l).2 = 0) : ∀ (i j : Nat) p q, i < j → l[i]? = some p → l[j]? = some q → befP p q = true := by
  have next : ∀ (i : Nat) p q, l[i]? = some p → l[i + 1]? = some q → befP p q = true := fun i p q hp hq => by
    have := (firstL3 (eachP_ok _ l 0 h (i + 1) q hq)).2.2
    rw [show pairAt l (0 + (i + 1) - 1) = p by simp [pairAt, hp]] at this
    cases hb : befP p q with
    | true => rfl
    | false => rw [hb, if_neg (by simp)] at this; cases this
  intro i j
  induction j with
  | zero => intro _ _ h; omega
  | succ j ih =>
    intro p q hij hp hq
    rcases Nat.lt_or_eq_of_le (Nat.le_of_lt_succ hij) with g | rfl
    · have hj : l[j]? = some (l[j]'(by have := (List.getElem?_eq_some_iff.1 hq).1; omega)) := by have := (List.getElem?_eq_some_iff.1 hq).1; simp [show j < l.length by omega]
      exact befP_trans (ih p _ g hp hj) (next j _ q hj hq)
    · exact next i p q hp hq
theorem ord_ok {a b : Netl} {l : List NPair} (h : (eachP (ordErrS a b l) 0 l).2 = 0) (p : NPair) (hp : p ∈ l) : stErrS a p.a = 0 ∧ stErrS b p.b = 0 := by
  obtain ⟨i, hi⟩ := List.getElem?_of_mem hp
  have := firstL3 (eachP_ok _ l 0 h i p hi)
  exact ⟨this.1, this.2.1⟩
end Go.E
/- Contracts of Go's library, in E: lists of whole numbers in order. Own work. -/
namespace Go.E
open Go.Proofs
set_option maxRecDepth 100000
set_option maxHeartbeats 4000000
theorem ne_int (x y : Int) : (decide ¬ x = y) = !decide (x = y) := by simp

theorem sl_eqPorts (bs : List Nat) (H : Heap) (a b : List Port) (ha : a.length ≤ 1000000) (hb : b.length ≤ 1000000) : callw X bs 155 [.list (a.map encPort), .list (b.map encPort)] H = some (.bool (decide (a = b)), H) := by
  refine call_at (rs := [.tmp 4]) (N := 26) (fn := Tryz.f155) xk155 xf155 rfl rfl rfl (by simp only [seval, push_cast, List.map_cons, List.map_nil, V.norm, norm1]; rfl) ?_
  rcases Classical.em (a.length = b.length) with hab | hab
  · have key : ∀ (bs : List Nat) i ρ H', i ≤ a.length → (H' = H ∧ ρ 0 = .list (a.map encPort) ∧ ρ 1 = .list (b.map encPort) ∧ ρ 12 = .int .i64 a.length ∧ ρ 13 = .int .i64 i ∧ Kp (a.take i = b.take i)) →
      Lp X ⟨26, bs⟩ (loopAt Tryz.f155 0) ρ H' fun ex ρ' H' => H' = H ∧ ((a = b ∧ ex = .exit 0) ∨ (a ≠ b ∧ ρ' 4 = .bool false ∧ ex = .ret)) := by
      intro bs
      refine loop_up ?_ ?_
      · rintro i ρ H' hlt ⟨rfl, h0, h1, h12, h13, hk⟩
        have hget : a[i]? = some a[i] := by simp [hlt]
        have hgetb : b[i]? = some b[i] := by simp [hab ▸ hlt]
        have hw := add1 i a.length hlt (by omega)
        have hn := take_step hget hgetb hk.out
        generalize a[i] = x at hget hn
        generalize b[i] = y at hgetb hn
        have hq := ne_port x y
        (try simp only [encPort] at hq)
        rcases Classical.em (x = y) with hxy | hxy
        · have hk2 := Kp.mk (hn.1 hxy)
          rw [decide_eq_true hxy] at hq
          clear hxy hn
          conv => arg 3; whnf
          repeat' first
           | (apply z50 (id := 6) (ord := [0, 1, 2, 3, 4, 5, 6, 7, 8]) <;> first | kernel_rfl | skip)
           | (refine zs ?_; repeat' first | apply zs0 | apply zs2 | (intro hc; try have hq := dq hc)) | fail
          exact ⟨by (simp only [seval, push_cast, *] <;> rfl), by (simp only [seval, push_cast, *] <;> rfl), by (simp only [seval, push_cast, *] <;> rfl), by (simp only [seval, push_cast, *] <;> rfl), by (simp only [seval, push_cast, *] <;> rfl), hk2⟩
        · have hk2 := Kp.mk (hn.2 hxy)
          rw [decide_eq_false hxy] at hq
          clear hxy hn
          conv => arg 3; whnf
          repeat' first
           | (apply z50 (id := 6) (ord := [0, 1, 2, 3, 4, 5, 6, 7, 8]) <;> first | kernel_rfl | skip)
           | (refine zs ?_; repeat' first | apply zs0 | apply zs2 | (intro hc; try have hq := dq hc)) | fail
          exact ⟨by (simp only [seval, push_cast, *] <;> rfl), .inr ⟨hk2.out, by (simp only [seval, push_cast, *] <;> rfl), rfl⟩⟩
      · rintro ρ H' ⟨rfl, h0, h1, h12, h13, hk⟩
        have hk2 : Kp (a = b) := ⟨by have := hk.out; rw [hab, List.take_length, ← hab, List.take_length] at this; exact this⟩
        conv => arg 3; whnf
        repeat' first
         | (apply z50 (id := 6) (ord := [0, 1, 2, 3, 4, 5, 6, 7, 8]) <;> first | kernel_rfl | skip)
         | (refine zs ?_; repeat' first | apply zs0 | apply zs2 | (intro hc; try have hq := dq hc)) | fail
        exact ⟨by (simp only [seval, push_cast, *] <;> rfl), .inl ⟨hk2.out, rfl⟩⟩
    repeat' first
     | (apply z50 (id := 6) (ord := [0, 1, 2, 3, 4, 5, 6, 7, 8]) <;> first | kernel_rfl | skip)
     | (refine zs ?_; repeat' first | apply zs0 | apply zs2 | (intro hc; try have hq := dq hc)) | fail
    refine lp_then (lp_any (c := loopAt Tryz.f155 0) rfl (key _ 0 _ _ (by omega) ⟨rfl, by (simp only [seval, push_cast, *] <;> rfl), by (simp only [seval, push_cast, *] <;> rfl), by (simp only [seval, push_cast, *] <;> rfl), by (simp only [seval, push_cast, *] <;> rfl), ⟨rfl⟩⟩)) ?_
    rintro ex ρ' H' ⟨rfl, ⟨he, rfl⟩ | ⟨he, f4, rfl⟩⟩ hf
    · clear key
      repeat' first
       | (apply z50 (id := 6) (ord := [0, 1, 2, 3, 4, 5, 6, 7, 8]) <;> first | kernel_rfl | skip)
       | (refine zs ?_; repeat' first | apply zs0 | apply zs2 | (intro hc; try have hq := dq hc)) | fail
    · clear key
      repeat' first
       | (apply z50 (id := 6) (ord := [0, 1, 2, 3, 4, 5, 6, 7, 8]) <;> first | kernel_rfl | skip)
       | (refine zs ?_; repeat' first | apply zs0 | apply zs2 | (intro hc; try have hq := dq hc)) | fail
  · have hne : ¬ a = b := fun h => hab (h ▸ rfl)
    repeat' first
     | (apply z50 (id := 6) (ord := [0, 1, 2, 3, 4, 5, 6, 7, 8]) <;> first | kernel_rfl | skip)
     | (refine zs ?_; repeat' first | apply zs0 | apply zs2 | (intro hc; try have hq := dq hc)) | fail

theorem sl_eqInts (bs : List Nat) (H : Heap) (a b : List Int) (ha : a.length ≤ 1000000) (hb : b.length ≤ 1000000) : callw X bs 124 [.list (a.map (V.int .i64)), .list (b.map (V.int .i64))] H = some (.bool (decide (a = b)), H) := by
  refine call_at (rs := [.tmp 4]) (N := 26) (fn := Tryz.f124) xk124 xf124 rfl rfl rfl (by simp only [seval, push_cast, List.map_cons, List.map_nil, V.norm, norm1]; rfl) ?_
  rcases Classical.em (a.length = b.length) with hab | hab
  · have key : ∀ (bs : List Nat) i ρ H', i ≤ a.length → (H' = H ∧ ρ 0 = .list (a.map (V.int .i64)) ∧ ρ 1 = .list (b.map (V.int .i64)) ∧ ρ 12 = .int .i64 a.length ∧ ρ 13 = .int .i64 i ∧ Kp (a.take i = b.take i)) →
      Lp X ⟨26, bs⟩ (loopAt Tryz.f124 0) ρ H' fun ex ρ' H' => H' = H ∧ ((a = b ∧ ex = .exit 0) ∨ (a ≠ b ∧ ρ' 4 = .bool false ∧ ex = .ret)) := by
      intro bs
      refine loop_up ?_ ?_
      · rintro i ρ H' hlt ⟨rfl, h0, h1, h12, h13, hk⟩
        have hget : a[i]? = some a[i] := by simp [hlt]
        have hgetb : b[i]? = some b[i] := by simp [hab ▸ hlt]
        have hw := add1 i a.length hlt (by omega)
        have hn := take_step hget hgetb hk.out
        generalize a[i] = x at hget hn
        generalize b[i] = y at hgetb hn
        have hq := ne_int x y
        (try simp only [(V.int .i64)] at hq)
        rcases Classical.em (x = y) with hxy | hxy
        · have hk2 := Kp.mk (hn.1 hxy)
          rw [decide_eq_true hxy] at hq
          clear hxy hn
          conv => arg 3; whnf
          repeat' first
           | (apply z50 (id := 6) (ord := [0, 1, 2, 3, 4, 5, 6, 7, 8]) <;> first | kernel_rfl | skip)
           | (refine zs ?_; repeat' first | apply zs0 | apply zs2 | (intro hc; try have hq := dq hc)) | fail
          exact ⟨by (simp only [seval, push_cast, *] <;> rfl), by (simp only [seval, push_cast, *] <;> rfl), by (simp only [seval, push_cast, *] <;> rfl), by (simp only [seval, push_cast, *] <;> rfl), by (simp only [seval, push_cast, *] <;> rfl), hk2⟩
        · have hk2 := Kp.mk (hn.2 hxy)
          rw [decide_eq_false hxy] at hq
          clear hxy hn
          conv => arg 3; whnf
          repeat' first
           | (apply z50 (id := 6) (ord := [0, 1, 2, 3, 4, 5, 6, 7, 8]) <;> first | kernel_rfl | skip)
           | (refine zs ?_; repeat' first | apply zs0 | apply zs2 | (intro hc; try have hq := dq hc)) | fail
          exact ⟨by (simp only [seval, push_cast, *] <;> rfl), .inr ⟨hk2.out, by (simp only [seval, push_cast, *] <;> rfl), rfl⟩⟩
      · rintro ρ H' ⟨rfl, h0, h1, h12, h13, hk⟩
        have hk2 : Kp (a = b) := ⟨by have := hk.out; rw [hab, List.take_length, ← hab, List.take_length] at this; exact this⟩
        conv => arg 3; whnf
        repeat' first
         | (apply z50 (id := 6) (ord := [0, 1, 2, 3, 4, 5, 6, 7, 8]) <;> first | kernel_rfl | skip)
         | (refine zs ?_; repeat' first | apply zs0 | apply zs2 | (intro hc; try have hq := dq hc)) | fail
        exact ⟨by (simp only [seval, push_cast, *] <;> rfl), .inl ⟨hk2.out, rfl⟩⟩
    repeat' first
     | (apply z50 (id := 6) (ord := [0, 1, 2, 3, 4, 5, 6, 7, 8]) <;> first | kernel_rfl | skip)
     | (refine zs ?_; repeat' first | apply zs0 | apply zs2 | (intro hc; try have hq := dq hc)) | fail
    refine lp_then (lp_any (c := loopAt Tryz.f124 0) rfl (key _ 0 _ _ (by omega) ⟨rfl, by (simp only [seval, push_cast, *] <;> rfl), by (simp only [seval, push_cast, *] <;> rfl), by (simp only [seval, push_cast, *] <;> rfl), by (simp only [seval, push_cast, *] <;> rfl), ⟨rfl⟩⟩)) ?_
    rintro ex ρ' H' ⟨rfl, ⟨he, rfl⟩ | ⟨he, f4, rfl⟩⟩ hf
    · clear key
      repeat' first
       | (apply z50 (id := 6) (ord := [0, 1, 2, 3, 4, 5, 6, 7, 8]) <;> first | kernel_rfl | skip)
       | (refine zs ?_; repeat' first | apply zs0 | apply zs2 | (intro hc; try have hq := dq hc)) | fail
    · clear key
      repeat' first
       | (apply z50 (id := 6) (ord := [0, 1, 2, 3, 4, 5, 6, 7, 8]) <;> first | kernel_rfl | skip)
       | (refine zs ?_; repeat' first | apply zs0 | apply zs2 | (intro hc; try have hq := dq hc)) | fail
  · have hne : ¬ a = b := fun h => hab (h ▸ rfl)
    repeat' first
     | (apply z50 (id := 6) (ord := [0, 1, 2, 3, 4, 5, 6, 7, 8]) <;> first | kernel_rfl | skip)
     | (refine zs ?_; repeat' first | apply zs0 | apply zs2 | (intro hc; try have hq := dq hc)) | fail

theorem cm_nan (bs : List Nat) (H : Heap) (x : Int) : callw X bs 219 [.int .i64 x] H = some (.bool false, H) := by
  refine call_at (rs := [.tmp 2]) (N := 6) (fn := Tryz.f219) xk219 xf219 rfl rfl rfl (by simp only [seval, push_cast, List.map_cons, List.map_nil, V.norm, norm1]; rfl) ?_
  have d : (decide ¬ x = x) = false := by simp
  all_goals try (refine zs ?_; repeat' first | apply zs0 | apply zs2 | (intro hc; try have hq := dq hc))

theorem cm_int (bs : List Nat) (H : Heap) (x y : Int) : callw X bs 162 [.int .i64 x, .int .i64 y] H = some (.int .i64 (cmpI x y), H) := by
  refine call_at (rs := [.tmp 4]) (N := 20) (fn := Tryz.f162) xk162 xf162 rfl rfl rfl (by simp only [seval, push_cast, List.map_cons, List.map_nil, V.norm, norm1]; rfl) ?_
  have t := cm_nan
  unfold cmpI
  by_cases h1 : x < y
  · have d : decide (x < y) = true := decide_eq_true h1
    rw [if_pos h1]
    clear h1
    all_goals try (refine zs ?_; repeat' first | apply zs0 | apply zs2 | (intro hc; try have hq := dq hc))
  · have d : decide (x < y) = false := decide_eq_false h1
    rw [if_neg h1]
    by_cases h2 : x > y
    · have d2 : decide (x > y) = true := decide_eq_true h2
      rw [if_pos h2]
      clear h1 h2
      all_goals try (refine zs ?_; repeat' first | apply zs0 | apply zs2 | (intro hc; try have hq := dq hc))
    · have d2 : decide (x > y) = false := decide_eq_false h2
      rw [if_neg h2]
      clear h1 h2
      all_goals try (refine zs ?_; repeat' first | apply zs0 | apply zs2 | (intro hc; try have hq := dq hc))

theorem cmpL_drop {a b : List Int} {i : Nat} {x y : Int} (ha : a[i]? = some x) (hb : b[i]? = some y) : cmpL (a.drop i) (b.drop i) = if cmpI x y ≠ 0 then cmpI x y else cmpL (a.drop (i + 1)) (b.drop (i + 1)) := by
  rw [drop_cons ha, drop_cons hb, cmpL]
theorem befL_drop {a b : List Int} {i : Nat} {x y : Int} (ha : a[i]? = some x) (hb : b[i]? = some y) : befL (a.drop i) (b.drop i) = if x = y then befL (a.drop (i + 1)) (b.drop (i + 1)) else decide (x < y) := by
  rw [drop_cons ha, drop_cons hb, befL]
theorem cmpL_nil (b : List Int) : cmpL [] b = if 0 < b.length then -1 else 0 := by cases b <;> simp [cmpL]
theorem befL_nil (b : List Int) : befL [] b = decide (0 < b.length) := by cases b <;> simp [befL]
theorem befL_end {a : List Int} (h : 0 < a.length) : befL a [] = false := by cases a with | nil => simp at h | cons x r => rfl

theorem sl_cmpInts (bs : List Nat) (H : Heap) (a b : List Int) (ha : a.length ≤ 1000000) (hb : b.length ≤ 1000000) : callw X bs 126 [.list (a.map (.int .i64)), .list (b.map (.int .i64))] H = some (.int .i64 (cmpL a b), H) := by
  refine call_at (rs := [.tmp 4]) (N := 36) (fn := Tryz.f126) xk126 xf126 rfl rfl rfl (by simp only [seval, push_cast, List.map_cons, List.map_nil, V.norm, norm1]; rfl) ?_
  have key : ∀ (R : Int) (bs : List Nat) i ρ H', i ≤ a.length → (H' = H ∧ ρ 1 = .list (b.map (.int .i64)) ∧ ρ 9 = .list (a.map (.int .i64)) ∧ ρ 10 = .int .i64 a.length ∧ ρ 11 = .int .i64 i ∧ Kp (cmpL (a.drop i) (b.drop i) = R)) →
      Lp X ⟨36, bs⟩ (loopAt Tryz.f126 0) ρ H' fun ex ρ' H' => H' = H ∧ ((ex = .exit 0 ∧ R = if a.length < b.length then -1 else 0) ∨ (ex = .ret ∧ ρ' 4 = .int .i64 R)) := by
    intro R bs
    refine loop_up ?_ ?_
    · rintro i ρ H' hi ⟨rfl, h1, h9, h10, h11, hR⟩
      have hget : a[i]? = some a[i] := by simp [hi]
      generalize a[i] = x at hget
      have hw := add1 i a.length hi ha
      replace hR := hR.out
      rcases Nat.lt_or_ge i b.length with hb2 | hb2
      · have hgetb : b[i]? = some b[i] := by simp [hb2]
        generalize b[i] = y at hgetb
        rw [cmpL_drop hget hgetb] at hR
        have d : decide ((i : Int) ≥ (b.length : Int)) = false := decide_eq_false (by omega)
        have t := fun bs H => cm_int bs H x y
        generalize cmpI x y = c at t hR
        clear hb2
        rcases Classical.em (c = 0) with hc0 | hc0
        · have d2 : (decide ¬ c = 0) = false := by simp [hc0]
          rw [if_neg (by simp [hc0])] at hR
          replace hR := Kp.mk hR
          clear hc0
          conv => arg 3; whnf
          all_goals try (refine zs ?_; repeat' first | apply zs0 | apply zs2 | (intro hc; try have hq := dq hc))
          exact ⟨rfl, by (simp only [seval, push_cast, *] <;> rfl), by (simp only [seval, push_cast, *] <;> rfl), by (simp only [seval, push_cast, *] <;> rfl), by (simp only [seval, push_cast, *] <;> rfl), ⟨hR.out⟩⟩
        · have d2 : (decide ¬ c = 0) = true := by simp [hc0]
          rw [if_pos hc0] at hR
          replace hR := Kp.mk hR
          clear hc0
          conv => arg 3; whnf
          all_goals try (refine zs ?_; repeat' first | apply zs0 | apply zs2 | (intro hc; try have hq := dq hc))
          exact ⟨rfl, .inr ⟨rfl, by rw [← hR.out]; (simp only [seval, push_cast, *] <;> rfl)⟩⟩
      · have d : decide ((i : Int) ≥ (b.length : Int)) = true := decide_eq_true (by omega)
        rw [drop_cons hget, List.drop_eq_nil_of_le hb2] at hR
        replace hR : 1 = R := hR
        clear hb2
        conv => arg 3; whnf
        all_goals try (refine zs ?_; repeat' first | apply zs0 | apply zs2 | (intro hc; try have hq := dq hc))
        exact ⟨rfl, .inr ⟨rfl, by rw [← hR]; (simp only [seval, push_cast, *] <;> rfl)⟩⟩
    · rintro ρ H' ⟨rfl, h1, h9, h10, h11, hR⟩
      replace hR := hR.out
      rw [List.drop_length, cmpL_nil, List.length_drop] at hR
      have e : (0 < b.length - a.length) = (a.length < b.length) := by simp only [eq_iff_iff]; omega
      simp only [e] at hR
      replace hR := Kp.mk hR
      clear e
      conv => arg 3; whnf
      all_goals try (refine zs ?_; repeat' first | apply zs0 | apply zs2 | (intro hc; try have hq := dq hc))
      exact ⟨rfl, .inl ⟨rfl, hR.out.symm⟩⟩
  have k1 := fun bs ρ => key (cmpL a b) bs 0 ρ H (by omega)
  clear key
  all_goals try (refine zs ?_; repeat' first | apply zs0 | apply zs2 | (intro hc; try have hq := dq hc))
  refine lp_then (lp_any (c := loopAt Tryz.f126 0) rfl (k1 _ _ ⟨rfl, by (simp only [seval, push_cast, *] <;> rfl), by (simp only [seval, push_cast, *] <;> rfl), by (simp only [seval, push_cast, *] <;> rfl), by (simp only [seval, push_cast, *] <;> rfl), ⟨rfl⟩⟩)) ?_
  clear k1
  rintro ex ρ' H' ⟨rfl, ⟨rfl, h2⟩ | ⟨rfl, h2⟩⟩ hf
  · have f0 := hf 0 rfl
    have f1 := hf 1 rfl
    simp only [seval, push_cast] at f0 f1
    clear hf
    rw [h2]
    clear h2
    by_cases hh : a.length < b.length
    · have d : decide ((a.length : Int) < (b.length : Int)) = true := decide_eq_true (by omega)
      rw [if_pos hh]
      clear hh
      all_goals try (refine zs ?_; repeat' first | apply zs0 | apply zs2 | (intro hc; try have hq := dq hc))
    · have d : decide ((a.length : Int) < (b.length : Int)) = false := decide_eq_false (by omega)
      rw [if_neg hh]
      clear hh
      all_goals try (refine zs ?_; repeat' first | apply zs0 | apply zs2 | (intro hc; try have hq := dq hc))
  · clear hf
    all_goals try (refine zs ?_; repeat' first | apply zs0 | apply zs2 | (intro hc; try have hq := dq hc))

theorem bs_before (bs : List Nat) (H : Heap) (a b : List Int) (ha : a.length ≤ 1000000) (hb : b.length ≤ 1000000) : callw X bs 128 [.list (a.map (.int .i64)), .list (b.map (.int .i64))] H = some (.bool (befL a b), H) := by
  refine call_at (rs := [.tmp 4]) (N := 41) (fn := Tryz.f128) xk128 xf128 rfl rfl rfl (by simp only [seval, push_cast, List.map_cons, List.map_nil, V.norm, norm1]; rfl) ?_
  have key : ∀ (R : Bool) (bs : List Nat) i ρ H', i ≤ min a.length b.length → (H' = H ∧ ρ 0 = .list (a.map (.int .i64)) ∧ ρ 1 = .list (b.map (.int .i64)) ∧ ρ 5 = .int .i64 i ∧ Kp (befL (a.drop i) (b.drop i) = R)) →
      Lp X ⟨41, bs⟩ (loopAt Tryz.f128 0) ρ H' fun ex ρ' H' => H' = H ∧ ((ex = .exit 0 ∧ R = decide ((a.length : Int) < (b.length : Int))) ∨ (ex = .ret ∧ ρ' 4 = .bool R)) := by
    intro R bs
    refine loop_up ?_ ?_
    · rintro i ρ H' hi ⟨rfl, h0, h1, h5, hR⟩
      have hi1 : i < a.length := by omega
      have hi2 : i < b.length := by omega
      have hget : a[i]? = some a[i] := by simp [hi1]
      have hgetb : b[i]? = some b[i] := by simp [hi2]
      generalize a[i] = x at hget
      generalize b[i] = y at hgetb
      have hw := add1 i a.length hi1 ha
      replace hR := hR.out
      rw [befL_drop hget hgetb] at hR
      have d1 : decide ((i : Int) < (a.length : Int)) = true := decide_eq_true (by omega)
      have d2 : decide ((i : Int) < (b.length : Int)) = true := decide_eq_true (by omega)
      clear hi hi1 hi2
      rcases Classical.em (x = y) with hc0 | hc0
      · have d3 : (decide ¬ x = y) = false := by simp [hc0]
        rw [if_pos hc0] at hR
        replace hR := Kp.mk hR
        clear hc0
        conv => arg 3; whnf
        repeat' first
         | (apply z50 (id := 4) (ord := [0, 1, 2, 3, 4, 5, 6, 7, 8]) <;> first | kernel_rfl | skip)
         | (apply z50 (id := 5) (ord := [0, 1, 2, 3, 4, 5, 6, 7, 8, 9]) <;> first | kernel_rfl | skip)
         | (refine zs ?_; repeat' first | apply zs0 | apply zs2 | (intro hc; try have hq := dq hc)) | fail
        exact ⟨rfl, by (simp only [seval, push_cast, *] <;> rfl), by (simp only [seval, push_cast, *] <;> rfl), by (simp only [seval, push_cast, *] <;> rfl), ⟨hR.out⟩⟩
      · have d3 : (decide ¬ x = y) = true := by simp [hc0]
        rw [if_neg hc0] at hR
        replace hR := Kp.mk hR
        clear hc0
        conv => arg 3; whnf
        repeat' first
         | (apply z50 (id := 4) (ord := [0, 1, 2, 3, 4, 5, 6, 7, 8]) <;> first | kernel_rfl | skip)
         | (apply z50 (id := 5) (ord := [0, 1, 2, 3, 4, 5, 6, 7, 8, 9]) <;> first | kernel_rfl | skip)
         | (refine zs ?_; repeat' first | apply zs0 | apply zs2 | (intro hc; try have hq := dq hc)) | fail
        exact ⟨rfl, .inr ⟨rfl, by rw [← hR.out]; (simp only [seval, push_cast, *] <;> rfl)⟩⟩
    · rintro ρ H' ⟨rfl, h0, h1, h5, hR⟩
      replace hR := hR.out
      rcases Nat.lt_or_ge b.length a.length with hab | hab
      · rw [Nat.min_eq_right (by omega)] at h5 hR
        rw [List.drop_length, befL_end (by rw [List.length_drop]; omega)] at hR
        have d1 : decide ((b.length : Int) < (a.length : Int)) = true := decide_eq_true (by omega)
        have hR2 : Kp (R = decide ((a.length : Int) < (b.length : Int))) := ⟨by rw [← hR, decide_eq_false (by omega)]⟩
        clear hR hab
        conv => arg 3; whnf
        repeat' first
         | (apply z50 (id := 4) (ord := [0, 1, 2, 3, 4, 5, 6, 7, 8]) <;> first | kernel_rfl | skip)
         | (apply z50 (id := 5) (ord := [0, 1, 2, 3, 4, 5, 6, 7, 8, 9]) <;> first | kernel_rfl | skip)
         | (refine zs ?_; repeat' first | apply zs0 | apply zs2 | (intro hc; try have hq := dq hc)) | fail
        exact ⟨rfl, .inl ⟨rfl, hR2.out⟩⟩
      · rw [Nat.min_eq_left (by omega)] at h5 hR
        rw [List.drop_length, befL_nil, List.length_drop] at hR
        have hR2 : Kp (R = decide ((a.length : Int) < (b.length : Int))) := ⟨by rw [← hR]; congr 1; simp only [eq_iff_iff]; omega⟩
        clear hR hab
        conv => arg 3; whnf
        repeat' first
         | (apply z50 (id := 4) (ord := [0, 1, 2, 3, 4, 5, 6, 7, 8]) <;> first | kernel_rfl | skip)
         | (apply z50 (id := 5) (ord := [0, 1, 2, 3, 4, 5, 6, 7, 8, 9]) <;> first | kernel_rfl | skip)
         | (refine zs ?_; repeat' first | apply zs0 | apply zs2 | (intro hc; try have hq := dq hc)) | fail
        exact ⟨rfl, .inl ⟨rfl, hR2.out⟩⟩
  have k1 := fun bs ρ => key (befL a b) bs 0 ρ H (by omega)
  clear key
  repeat' first
   | (apply z50 (id := 4) (ord := [0, 1, 2, 3, 4, 5, 6, 7, 8]) <;> first | kernel_rfl | skip)
   | (apply z50 (id := 5) (ord := [0, 1, 2, 3, 4, 5, 6, 7, 8, 9]) <;> first | kernel_rfl | skip)
   | (refine zs ?_; repeat' first | apply zs0 | apply zs2 | (intro hc; try have hq := dq hc)) | fail
  refine lp_then (lp_any (c := loopAt Tryz.f128 0) rfl (k1 _ _ ⟨rfl, by (simp only [seval, push_cast, *] <;> rfl), by (simp only [seval, push_cast, *] <;> rfl), by (simp only [seval, push_cast, *] <;> rfl), ⟨rfl⟩⟩)) ?_
  clear k1
  rintro ex ρ' H' ⟨rfl, ⟨rfl, h2⟩ | ⟨rfl, h2⟩⟩ hf
  · have f0 := hf 0 rfl
    have f1 := hf 1 rfl
    simp only [seval, push_cast] at f0 f1
    clear hf
    rw [h2]
    clear h2
    repeat' first
     | (apply z50 (id := 4) (ord := [0, 1, 2, 3, 4, 5, 6, 7, 8]) <;> first | kernel_rfl | skip)
     | (apply z50 (id := 5) (ord := [0, 1, 2, 3, 4, 5, 6, 7, 8, 9]) <;> first | kernel_rfl | skip)
     | (refine zs ?_; repeat' first | apply zs0 | apply zs2 | (intro hc; try have hq := dq hc)) | fail
  · clear hf
    repeat' first
     | (apply z50 (id := 4) (ord := [0, 1, 2, 3, 4, 5, 6, 7, 8]) <;> first | kernel_rfl | skip)
     | (apply z50 (id := 5) (ord := [0, 1, 2, 3, 4, 5, 6, 7, 8, 9]) <;> first | kernel_rfl | skip)
     | (refine zs ?_; repeat' first | apply zs0 | apply zs2 | (intro hc; try have hq := dq hc)) | fail

end Go.E
/- Contracts of the package graph, in E: what operations compute. Own work. -/
namespace Go.E
open Go.Proofs
set_option maxRecDepth 100000
set_option maxHeartbeats 4000000

theorem bin_shr {P : Program} {t : TypeId} {k k' : IntKind} {a b : Int} (h : 0 ≤ b) : binOpV P .shr t (.int k a) (.int k' b) = some (.int k (a.fdiv (2 ^ (min b.toNat k.bits)))) := by
  simp [binOpV, shiftOp, Int.not_lt.2 h]
attribute [push_cast] bin_shr
theorem un_xor {n : Int} : unOpV .xor (.int .i64 n) = some (.int .i64 (bitsI .xor .i64 (-1) n)) := rfl
attribute [push_cast] un_xor
theorem shl_wrap {w : Int} (h : w ≤ 32) : IntKind.i64.wrap (1 * 2 ^ (min w.toNat IntKind.i64.bits)) = 2 ^ w.toNat := shl1_pow h
theorem min_bits {n : Nat} (h : n ≤ 64) : min n IntKind.i64.bits = n := Nat.min_eq_left h

theorem gr_mask (bs : List Nat) (H : Heap) (n width : Int) (h0 : 0 ≤ width) (h : width ≤ 16) : callw X bs 171 [.int .i64 n, .int .i64 width] H = some (.int .i64 (n % 2 ^ width.toNat), H) := by
  refine call_at (rs := [.tmp 4]) (N := 10) (fn := Tryz.f171) xk171 xf171 rfl rfl rfl (by simp only [seval, push_cast, List.map_cons, List.map_nil, V.norm, norm1]; rfl) ?_
  have hs := shl_wrap (w := width) (by omega)
  have h1 := pow_le (k := width.toNat) (by omega)
  have h2 := pow_pos' width.toNat
  have hw : IntKind.i64.wrap ((2 : Int) ^ width.toNat - 1) = 2 ^ width.toNat - 1 := by rw [wrap64] <;> omega
  have hm := bits_mask n width.toNat (by omega)
  clear h1 h2
  all_goals try (refine zs ?_; repeat' first | apply zs0 | apply zs2 | (intro hc; try have hq := dq hc))

theorem gr_truth (bs : List Nat) (H : Heap) (b : Bool) : callw X bs 234 [.bool b] H = some (.int .i64 (if b = true then 1 else 0), H) := by
  refine call_at (rs := [.tmp 2]) (N := 4) (fn := Tryz.f234) xk234 xf234 rfl rfl rfl (by simp only [seval, push_cast, List.map_cons, List.map_nil, V.norm, norm1]; rfl) ?_
  cases b
  · all_goals try (refine zs ?_; repeat' first | apply zs0 | apply zs2 | (intro hc; try have hq := dq hc))
  · all_goals try (refine zs ?_; repeat' first | apply zs0 | apply zs2 | (intro hc; try have hq := dq hc))
attribute [push_cast] gr_truth

theorem bits_11 : bitsI .and .i64 1 1 = 1 := by
  have := bits_and 1 1 (by decide) (by decide)
  simpa using this
theorem bits_01 : bitsI .and .i64 0 1 = 0 := by
  have := bits_and 0 1 (by decide) (by decide)
  simpa using this
theorem gr_signed (bs : List Nat) (H : Heap) (n w : Int) (hn : InW n w) (h1 : 1 ≤ w) (h16 : w ≤ 16) : callw X bs 183 [.int .i64 n, .int .i64 w] H = some (.int .i64 (sgn n w), H) := by
  refine call_at (rs := [.tmp 4]) (N := 16) (fn := Tryz.f183) xk183 xf183 rfl rfl rfl (by simp only [seval, push_cast, List.map_cons, List.map_nil, V.norm, norm1]; rfl) ?_
  obtain ⟨n0, n1⟩ := hn
  have e0 : IntKind.i64.wrap (w - 1) = w - 1 := by rw [wrap64] <;> omega
  have e1 : (0 : Int) ≤ w - 1 := by omega
  have e7 : (0 : Int) ≤ w := by omega
  have e2 : min (w - 1).toNat IntKind.i64.bits = w.toNat - 1 := by rw [min_bits (by omega)]; omega
  have hp := pow_pos' (w.toNat - 1)
  have hps := pow_two_succ h1
  have hs := shl_wrap (w := w) (by omega)
  have hle := pow_le (k := w.toNat) (by omega)
  unfold sgn
  by_cases hc : 2 ^ (w.toNat - 1) ≤ n
  · have e3 : n.fdiv (2 ^ (w.toNat - 1)) = 1 := by
      rw [Int.fdiv_eq_ediv_of_nonneg _ (by omega)]
      have a1 : 1 ≤ n / 2 ^ (w.toNat - 1) := (Int.le_ediv_iff_mul_le hp).2 (by omega)
      have a2 : n / 2 ^ (w.toNat - 1) < 2 := (Int.ediv_lt_iff_lt_mul hp).2 (by omega)
      omega
    have e4 : bitsI .and .i64 1 1 = 1 := bits_11
    have e5 : IntKind.i64.wrap (n - 2 ^ w.toNat) = n - 2 ^ w.toNat := by rw [wrap64] <;> omega
    rw [if_pos hc]
    clear hc hp hps hle n0 n1
    all_goals try (refine zs ?_; repeat' first | apply zs0 | apply zs2 | (intro hc; try have hq := dq hc))
  · have e3 : n.fdiv (2 ^ (w.toNat - 1)) = 0 := by
      rw [Int.fdiv_eq_ediv_of_nonneg _ (by omega)]
      exact Int.ediv_eq_zero_of_lt n0 (by omega)
    have e4 : bitsI .and .i64 0 1 = 0 := bits_01
    rw [if_neg hc]
    clear hc hp hps hle n0 n1 hs
    all_goals try (refine zs ?_; repeat' first | apply zs0 | apply zs2 | (intro hc; try have hq := dq hc))

theorem gr_and (bs : List Nat) (H : Heap) (x y : Int) : callw X bs 173 [.int .i64 x, .int .i64 y] H = some (.int .i64 (bitsI .and .i64 x y), H) := by
  refine call_at (rs := [.tmp 4]) (N := 8) (fn := Tryz.f173) xk173 xf173 rfl rfl rfl (by simp only [seval, push_cast, List.map_cons, List.map_nil, V.norm, norm1]; rfl) ?_
  all_goals try (refine zs ?_; repeat' first | apply zs0 | apply zs2 | (intro hc; try have hq := dq hc))
attribute [push_cast] gr_and

theorem gr_or (bs : List Nat) (H : Heap) (x y : Int) : callw X bs 174 [.int .i64 x, .int .i64 y] H = some (.int .i64 (bitsI .or .i64 x y), H) := by
  refine call_at (rs := [.tmp 4]) (N := 8) (fn := Tryz.f174) xk174 xf174 rfl rfl rfl (by simp only [seval, push_cast, List.map_cons, List.map_nil, V.norm, norm1]; rfl) ?_
  all_goals try (refine zs ?_; repeat' first | apply zs0 | apply zs2 | (intro hc; try have hq := dq hc))
attribute [push_cast] gr_or

theorem gr_xor (bs : List Nat) (H : Heap) (x y : Int) : callw X bs 175 [.int .i64 x, .int .i64 y] H = some (.int .i64 (bitsI .xor .i64 x y), H) := by
  refine call_at (rs := [.tmp 4]) (N := 8) (fn := Tryz.f175) xk175 xf175 rfl rfl rfl (by simp only [seval, push_cast, List.map_cons, List.map_nil, V.norm, norm1]; rfl) ?_
  all_goals try (refine zs ?_; repeat' first | apply zs0 | apply zs2 | (intro hc; try have hq := dq hc))
attribute [push_cast] gr_xor

theorem gr_add (bs : List Nat) (H : Heap) (x y : Int) : callw X bs 176 [.int .i64 x, .int .i64 y] H = some (.int .i64 (IntKind.i64.wrap (x + y)), H) := by
  refine call_at (rs := [.tmp 4]) (N := 8) (fn := Tryz.f176) xk176 xf176 rfl rfl rfl (by simp only [seval, push_cast, List.map_cons, List.map_nil, V.norm, norm1]; rfl) ?_
  all_goals try (refine zs ?_; repeat' first | apply zs0 | apply zs2 | (intro hc; try have hq := dq hc))
attribute [push_cast] gr_add

theorem gr_sub (bs : List Nat) (H : Heap) (x y : Int) : callw X bs 177 [.int .i64 x, .int .i64 y] H = some (.int .i64 (IntKind.i64.wrap (x - y)), H) := by
  refine call_at (rs := [.tmp 4]) (N := 8) (fn := Tryz.f177) xk177 xf177 rfl rfl rfl (by simp only [seval, push_cast, List.map_cons, List.map_nil, V.norm, norm1]; rfl) ?_
  all_goals try (refine zs ?_; repeat' first | apply zs0 | apply zs2 | (intro hc; try have hq := dq hc))
attribute [push_cast] gr_sub

theorem gr_mul (bs : List Nat) (H : Heap) (x y : Int) : callw X bs 178 [.int .i64 x, .int .i64 y] H = some (.int .i64 (IntKind.i64.wrap (x * y)), H) := by
  refine call_at (rs := [.tmp 4]) (N := 8) (fn := Tryz.f178) xk178 xf178 rfl rfl rfl (by simp only [seval, push_cast, List.map_cons, List.map_nil, V.norm, norm1]; rfl) ?_
  all_goals try (refine zs ?_; repeat' first | apply zs0 | apply zs2 | (intro hc; try have hq := dq hc))
attribute [push_cast] gr_mul

theorem gr_eq (bs : List Nat) (H : Heap) (x y w : Int) : callw X bs 180 [.int .i64 x, .int .i64 y, .int .i64 w] H = some (.bool (decide (x = y)), H) := by
  refine call_at (rs := [.tmp 6]) (N := 10) (fn := Tryz.f180) xk180 xf180 rfl rfl rfl (by simp only [seval, push_cast, List.map_cons, List.map_nil, V.norm, norm1]; rfl) ?_
  all_goals try (refine zs ?_; repeat' first | apply zs0 | apply zs2 | (intro hc; try have hq := dq hc))
attribute [push_cast] gr_eq

theorem gr_lt (bs : List Nat) (H : Heap) (x y w : Int) : callw X bs 181 [.int .i64 x, .int .i64 y, .int .i64 w] H = some (.bool (decide (x < y)), H) := by
  refine call_at (rs := [.tmp 6]) (N := 10) (fn := Tryz.f181) xk181 xf181 rfl rfl rfl (by simp only [seval, push_cast, List.map_cons, List.map_nil, V.norm, norm1]; rfl) ?_
  all_goals try (refine zs ?_; repeat' first | apply zs0 | apply zs2 | (intro hc; try have hq := dq hc))
attribute [push_cast] gr_lt

theorem gr_slt (bs : List Nat) (H : Heap) (x y w : Int) (hx : InW x w) (hy : InW y w) (h1 : 1 ≤ w) (h16 : w ≤ 16) : callw X bs 182 [.int .i64 x, .int .i64 y, .int .i64 w] H = some (.bool (decide (sgn x w < sgn y w)), H) := by
  refine call_at (rs := [.tmp 6]) (N := 14) (fn := Tryz.f182) xk182 xf182 rfl rfl rfl (by simp only [seval, push_cast, List.map_cons, List.map_nil, V.norm, norm1]; rfl) ?_
  have t1 := fun bs H => gr_signed bs H x w hx h1 h16
  have t2 := fun bs H => gr_signed bs H y w hy h1 h16
  clear hx hy
  all_goals try (refine zs ?_; repeat' first | apply zs0 | apply zs2 | (intro hc; try have hq := dq hc))

theorem gr_bin (bs : List Nat) (H : Heap) (op W v : Int) (ar w : List V) (f : Nat) (p q r : Int) (h0 : 0 ≤ W) (h16 : W ≤ 16) (hf : ∀ bs H, callw X bs f [.int .i64 p, .int .i64 q] H = some (.int .i64 r, H)) : callw X bs 231 [.agg [.int .i64 op, .int .i64 W, .list ar, .int .i64 v], .list w, .list [.int .i64 p, .int .i64 q], .eptr [.func f []] 0] H = some (.int .i64 (r % 2 ^ W.toNat), H) := by
  refine call_at (rs := [.tmp 7]) (N := 19) (fn := Tryz.f231) xk231 xf231 rfl rfl rfl (by simp only [seval, push_cast, List.map_cons, List.map_nil, V.norm, norm1]; rfl) ?_
  have t1 := fun bs H => gr_mask bs H r W h0 h16
  repeat' first
   | (apply z51 (id := 1) (ord := [0, 1, 2, 3, 4, 5, 6, 8, 9, 7, 10, 11]) (ps := [(8, 9)]) <;> first | kernel_rfl | skip)
   | (refine zs ?_; repeat' first | apply zs0 | apply zs2 | (intro hc; try have hq := dq hc)) | fail

theorem gr_rel (bs : List Nat) (H : Heap) (op W v : Int) (ar w : List V) (f : Nat) (p q s : Int) (b : Bool) (hf : ∀ bs H, callw X bs f [.int .i64 p, .int .i64 q, .int .i64 s] H = some (.bool b, H)) : callw X bs 233 [.agg [.int .i64 op, .int .i64 W, .list ar, .int .i64 v], .list (.int .i64 s :: w), .list [.int .i64 p, .int .i64 q], .eptr [.func f []] 0] H = some (.int .i64 (if b = true then 1 else 0), H) := by
  refine call_at (rs := [.tmp 7]) (N := 20) (fn := Tryz.f233) xk233 xf233 rfl rfl rfl (by simp only [seval, push_cast, List.map_cons, List.map_nil, V.norm, norm1]; rfl) ?_
  repeat' first
   | (apply z50 (id := 1) (ord := [0, 1, 2, 3, 4, 5, 6, 7, 8, 9, 10, 11, 12]) <;> first | kernel_rfl | skip)
   | (refine zs ?_; repeat' first | apply zs0 | apply zs2 | (intro hc; try have hq := dq hc)) | fail

theorem gr_r0 (bs : List Nat) (H : Heap) (op W v : Int) (ar w a : List V) : callw X bs 167 [.agg [.int .i64 op, .int .i64 W, .list ar, .int .i64 v], .list w, .list a] H = some (.int .i64 v, H) := by
  refine call_at (rs := [.tmp 6]) (N := 9) (fn := Tryz.f167) xk167 xf167 rfl rfl rfl (by simp only [seval, push_cast, List.map_cons, List.map_nil, V.norm, norm1]; rfl) ?_
  all_goals try (refine zs ?_; repeat' first | apply zs0 | apply zs2 | (intro hc; try have hq := dq hc))

theorem gr_r2 (bs : List Nat) (H : Heap) (op W v x : Int) (ar w : List V) (hx : InW x W) (h1 : 1 ≤ W) (h16 : W ≤ 16) : callw X bs 170 [.agg [.int .i64 op, .int .i64 W, .list ar, .int .i64 v], .list w, .list [.int .i64 x]] H = some (.int .i64 (2 ^ W.toNat - 1 - x), H) := by
  refine call_at (rs := [.tmp 6]) (N := 14) (fn := Tryz.f170) xk170 xf170 rfl rfl rfl (by simp only [seval, push_cast, List.map_cons, List.map_nil, V.norm, norm1]; rfl) ?_
  obtain ⟨a1, a2⟩ := hx
  have hp := pow_le (k := W.toNat) (by omega)
  obtain ⟨m, rfl⟩ : ∃ m : Nat, x = m := ⟨x.toNat, by omega⟩
  have e1 : bitsI .xor .i64 (-1) m = -1 - (m : Int) := bits_not m (by
    have : (2 : Nat) ^ 32 = 4294967296 := by decide
    omega)
  have e2 : (-1 - (m : Int)) % 2 ^ W.toNat = 2 ^ W.toNat - 1 - m := by
    rw [← Int.add_emod_right, Int.emod_eq_of_lt (by omega) (by omega)]; omega
  have t1 := fun bs H => gr_mask bs H (-1 - (m : Int)) W (by omega) h16
  rw [e2] at t1
  clear e2 hp a1 a2 h1 h16
  repeat' first
   | (apply z50 (id := 1) (ord := [0, 1, 2, 3, 4, 5, 6, 7]) <;> first | kernel_rfl | skip)
   | (refine zs ?_; repeat' first | apply zs0 | apply zs2 | (intro hc; try have hq := dq hc)) | fail

theorem gr_r12 (bs : List Nat) (H : Heap) (op W v x y z : Int) (ar w : List V) : callw X bs 185 [.agg [.int .i64 op, .int .i64 W, .list ar, .int .i64 v], .list w, .list [.int .i64 x, .int .i64 y, .int .i64 z]] H = some (.int .i64 (if x = 1 then y else z), H) := by
  refine call_at (rs := [.tmp 6]) (N := 17) (fn := Tryz.f185) xk185 xf185 rfl rfl rfl (by simp only [seval, push_cast, List.map_cons, List.map_nil, V.norm, norm1]; rfl) ?_
  by_cases h : x = 1
  · have d : decide (x = 1) = true := decide_eq_true h
    rw [if_pos h]
    clear h
    all_goals try (refine zs ?_; repeat' first | apply zs0 | apply zs2 | (intro hc; try have hq := dq hc))
  · have d : decide (x = 1) = false := decide_eq_false h
    rw [if_neg h]
    clear h
    all_goals try (refine zs ?_; repeat' first | apply zs0 | apply zs2 | (intro hc; try have hq := dq hc))

theorem shl_small {x q : Int} (hx : 0 ≤ x ∧ x < 65536) (h0 : 0 ≤ q) (h : q ≤ 16) : IntKind.i64.wrap (x * 2 ^ (min q.toNat IntKind.i64.bits)) = x * 2 ^ q.toNat := by
  rw [min_bits (by omega)]
  have h1 := pow_le (k := q.toNat) (by omega)
  have h2 := pow_pos' q.toNat
  have h3 : x * 2 ^ q.toNat ≤ 65536 * 4294967296 := Int.le_trans (Int.mul_le_mul_of_nonneg_right (by omega) (by omega)) (Int.mul_le_mul_of_nonneg_left h1 (by omega))
  have h4 := Int.mul_nonneg hx.1 (Int.le_of_lt h2)
  rw [wrap64] <;> omega
theorem or_add {x y q : Int} (hx : 0 ≤ x ∧ x < 65536) (h0 : 0 ≤ q) (h : q ≤ 16) (hy : InW y q) : bitsI .or .i64 (x * 2 ^ q.toNat) y = x * 2 ^ q.toNat + y := by
  obtain ⟨y1, y2⟩ := hy
  obtain ⟨a, rfl⟩ : ∃ a : Nat, x = a := ⟨x.toNat, by omega⟩
  obtain ⟨b, rfl⟩ : ∃ b : Nat, y = b := ⟨y.toNat, by omega⟩
  have hb : b < 2 ^ q.toNat := by rw [← pow_nat] at y2; omega
  have h3 : 2 ^ q.toNat ≤ 2 ^ 16 := Nat.pow_le_pow_right (by omega) (by omega)
  have c16 : (2 : Nat) ^ 16 = 65536 := by decide
  have c32 : (2 : Nat) ^ 32 = 4294967296 := by decide
  have h4 : a * 2 ^ q.toNat ≤ 65535 * 65536 := Nat.mul_le_mul (by omega) (by omega)
  have e : ((a : Int) * 2 ^ q.toNat) = ((a * 2 ^ q.toNat : Nat) : Int) := by simp
  rw [e, bits_or _ _ (by omega) (by omega)]
  have := Nat.shiftLeft_add_eq_or_of_lt hb a
  rw [Nat.shiftLeft_eq] at this
  rw [← this]; simp
theorem gr_r13 (bs : List Nat) (H : Heap) (op W v x y s q : Int) (ar w : List V) (hx : 0 ≤ x ∧ x < 65536) (hq0 : 0 ≤ q) (hq : q ≤ 16) (hy : InW y q) : callw X bs 187 [.agg [.int .i64 op, .int .i64 W, .list ar, .int .i64 v], .list (.int .i64 s :: .int .i64 q :: w), .list [.int .i64 x, .int .i64 y]] H = some (.int .i64 (x * 2 ^ q.toNat + y), H) := by
  refine call_at (rs := [.tmp 6]) (N := 18) (fn := Tryz.f187) xk187 xf187 rfl rfl rfl (by simp only [seval, push_cast, List.map_cons, List.map_nil, V.norm, norm1]; rfl) ?_
  have e1 := shl_small hx hq0 hq
  have e2 := or_add hx hq0 hq hy
  clear hx hq hy
  repeat' first
   | (apply z50 (id := 1) (ord := [0, 1, 2, 3, 4, 5, 6, 7, 8, 9, 10, 11]) <;> first | kernel_rfl | skip)
   | (refine zs ?_; repeat' first | apply zs0 | apply zs2 | (intro hc; try have hq := dq hc)) | fail

theorem shr_div {x v : Int} (h0 : 0 ≤ v) (h : v ≤ 64) : x.fdiv (2 ^ (min v.toNat IntKind.i64.bits)) = x / 2 ^ v.toNat := by
  rw [min_bits (by omega), Int.fdiv_eq_ediv_of_nonneg _ (Int.le_of_lt (pow_pos' _))]
theorem gr_r14 (bs : List Nat) (H : Heap) (op W v x : Int) (ar w : List V) (hv0 : 0 ≤ v) (hv : v ≤ 15) (h0 : 0 ≤ W) (h16 : W ≤ 16) : callw X bs 189 [.agg [.int .i64 op, .int .i64 W, .list ar, .int .i64 v], .list w, .list [.int .i64 x]] H = some (.int .i64 (x / 2 ^ v.toNat % 2 ^ W.toNat), H) := by
  refine call_at (rs := [.tmp 6]) (N := 16) (fn := Tryz.f189) xk189 xf189 rfl rfl rfl (by simp only [seval, push_cast, List.map_cons, List.map_nil, V.norm, norm1]; rfl) ?_
  have e1 := shr_div (x := x) hv0 (by omega)
  have t1 := fun bs H => gr_mask bs H (x / 2 ^ v.toNat) W h0 h16
  clear hv h0 h16
  repeat' first
   | (apply z50 (id := 1) (ord := [0, 1, 2, 3, 4, 5, 6, 7, 8, 9]) <;> first | kernel_rfl | skip)
   | (refine zs ?_; repeat' first | apply zs0 | apply zs2 | (intro hc; try have hq := dq hc)) | fail

theorem gr_r15 (bs : List Nat) (H : Heap) (op W v x : Int) (ar w : List V) : callw X bs 191 [.agg [.int .i64 op, .int .i64 W, .list ar, .int .i64 v], .list w, .list [.int .i64 x]] H = some (.int .i64 x, H) := by
  refine call_at (rs := [.tmp 6]) (N := 10) (fn := Tryz.f191) xk191 xf191 rfl rfl rfl (by simp only [seval, push_cast, List.map_cons, List.map_nil, V.norm, norm1]; rfl) ?_
  all_goals try (refine zs ?_; repeat' first | apply zs0 | apply zs2 | (intro hc; try have hq := dq hc))

theorem gr_r16 (bs : List Nat) (H : Heap) (op W v x s : Int) (ar w : List V) (hx : InW x s) (hs1 : 1 ≤ s) (hs16 : s ≤ 16) (h0 : 0 ≤ W) (h16 : W ≤ 16) : callw X bs 192 [.agg [.int .i64 op, .int .i64 W, .list ar, .int .i64 v], .list (.int .i64 s :: w), .list [.int .i64 x]] H = some (.int .i64 (sgn x s % 2 ^ W.toNat), H) := by
  refine call_at (rs := [.tmp 6]) (N := 17) (fn := Tryz.f192) xk192 xf192 rfl rfl rfl (by simp only [seval, push_cast, List.map_cons, List.map_nil, V.norm, norm1]; rfl) ?_
  have t0 := fun bs H => gr_signed bs H x s hx hs1 hs16
  have t1 := fun bs H => gr_mask bs H (sgn x s) W h0 h16
  clear hx hs1 hs16 h0 h16
  repeat' first
   | (apply z51 (id := 1) (ord := [0, 1, 2, 3, 4, 5, 7, 8, 6, 9, 10]) (ps := [(7, 8)]) <;> first | kernel_rfl | skip)
   | (refine zs ?_; repeat' first | apply zs0 | apply zs2 | (intro hc; try have hq := dq hc)) | fail

theorem min_lt {a b : Int} (h : a < b) : (if b < a then b else a) = a := if_neg (by omega)
theorem mul_mod_pow (x : Int) (k : Nat) : x * 2 ^ k % 2 ^ k = 0 := Int.mul_emod_left _ _
theorem gr_r17 (bs : List Nat) (H : Heap) (op W v x y : Int) (ar w : List V) (hx : 0 ≤ x ∧ x < 65536) (hy : 0 ≤ y) (h0 : 0 ≤ W) (h16 : W ≤ 16) : callw X bs 194 [.agg [.int .i64 op, .int .i64 W, .list ar, .int .i64 v], .list w, .list [.int .i64 x, .int .i64 y]] H = some (.int .i64 (if W ≤ y then 0 else x * 2 ^ y.toNat % 2 ^ W.toNat), H) := by
  refine call_at (rs := [.tmp 6]) (N := 20) (fn := Tryz.f194) xk194 xf194 rfl rfl rfl (by simp only [seval, push_cast, List.map_cons, List.map_nil, V.norm, norm1]; rfl) ?_
  by_cases h : W ≤ y
  · have e1 := shl_small hx h0 h16
    have e2 : (if y < W then y else W) = W := if_neg (by omega)
    have e3 : (if W < y then W else y) = W := by split <;> omega
    have t1 := fun bs H => gr_mask bs H (x * 2 ^ W.toNat) W h0 h16
    rw [mul_mod_pow] at t1
    rw [if_pos h]
    clear hx hy h h16
    repeat' first
     | (apply z50 (id := 1) (ord := [0, 1, 2, 3, 4, 5, 6, 7, 8, 9, 10, 11, 12, 13]) <;> first | kernel_rfl | skip)
     | (refine zs ?_; repeat' first | apply zs0 | apply zs2 | (intro hc; try have hq := dq hc)) | fail
  · have e1 := shl_small hx hy (by omega : y ≤ 16)
    have e2 : (if y < W then y else W) = y := if_pos (by omega)
    have e3 : (if W < y then W else y) = y := if_neg (by omega)
    have t1 := fun bs H => gr_mask bs H (x * 2 ^ y.toNat) W h0 h16
    rw [if_neg h]
    clear hx h h0 h16
    repeat' first
     | (apply z50 (id := 1) (ord := [0, 1, 2, 3, 4, 5, 6, 7, 8, 9, 10, 11, 12, 13]) <;> first | kernel_rfl | skip)
     | (refine zs ?_; repeat' first | apply zs0 | apply zs2 | (intro hc; try have hq := dq hc)) | fail

theorem gr_r18 (bs : List Nat) (H : Heap) (op W v x y : Int) (ar w : List V) (hx : InW x W) (hy : 0 ≤ y) (h0 : 0 ≤ W) (h16 : W ≤ 16) : callw X bs 195 [.agg [.int .i64 op, .int .i64 W, .list ar, .int .i64 v], .list w, .list [.int .i64 x, .int .i64 y]] H = some (.int .i64 (if W ≤ y then 0 else x / 2 ^ y.toNat), H) := by
  refine call_at (rs := [.tmp 6]) (N := 17) (fn := Tryz.f195) xk195 xf195 rfl rfl rfl (by simp only [seval, push_cast, List.map_cons, List.map_nil, V.norm, norm1]; rfl) ?_
  by_cases h : W ≤ y
  · have e1 := shr_div (x := x) h0 (by omega)
    have e4 : x / 2 ^ W.toNat = 0 := Int.ediv_eq_zero_of_lt hx.1 hx.2
    have e2 : (if y < W then y else W) = W := if_neg (by omega)
    have e3 : (if W < y then W else y) = W := by split <;> omega
    rw [if_pos h]
    rw [e4] at e1
    clear hx hy h h16 e4
    repeat' first
     | (apply z50 (id := 1) (ord := [0, 1, 2, 3, 4, 5, 6, 7, 8, 9, 10]) <;> first | kernel_rfl | skip)
     | (refine zs ?_; repeat' first | apply zs0 | apply zs2 | (intro hc; try have hq := dq hc)) | fail
  · have e1 := shr_div (x := x) hy (by omega)
    have e2 : (if y < W then y else W) = y := if_pos (by omega)
    have e3 : (if W < y then W else y) = y := if_neg (by omega)
    rw [if_neg h]
    clear hx h h0 h16
    repeat' first
     | (apply z50 (id := 1) (ord := [0, 1, 2, 3, 4, 5, 6, 7, 8, 9, 10]) <;> first | kernel_rfl | skip)
     | (refine zs ?_; repeat' first | apply zs0 | apply zs2 | (intro hc; try have hq := dq hc)) | fail
end Go.E
