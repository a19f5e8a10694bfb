/- What the references say of netlists, in plain Lean. Own work. -/
import Derived.Test.YtbnakdpmjlcneaaGreatSA
import Derived.Test.YtbnakdpmjlcneaaGreatBs3
set_option linter.all false
namespace Go.E
def portErrR (l : List Port) (i : Nat) (p : Port) : Int :=
  if isNameS p.name = false then 4 else if (l.take i).any (fun q => decide (q.name = p.name)) = true then 5 else if isW p.width = false then 2 else 0
def portsErrR (l : List Port) : Int × Int := if 12 < l.length then (0, 8) else eachP (portErrR l) 0 l
def isNodeL (nodes : List Node) (i : Int) : Bool := decide (0 ≤ i) && decide (i ≤ (nodes.length : Int) - 1)
def outErrR (nodes : List Node) (l : List Outp) (i : Nat) (o : Outp) : Int :=
  if isNameS o.name = false then 4 else if (l.take i).any (fun q => decide (q.name = o.name)) = true then 5 else if isNodeL nodes o.node = false then 9 else 0
def outsErrR (nodes : List Node) (l : List Outp) : Int × Int := if 12 < l.length then (0, 8) else eachP (outErrR nodes l) 0 l
def regErrR (n : Netl) (i : Nat) (r : Reg) : Int :=
  if isNameS r.name = false then 4 else if (n.regs.take i).any (fun q => decide (q.name = r.name)) = true then 5 else if n.inputs.any (fun q => decide (q.name = r.name)) = true then 5
  else if (isW r.width && fitsN r.init r.width) = false then 2 else 0
def widthL (nodes : List Node) (i : Int) : Int := match nodes[i.toNat]? with | some y => y.width | none => 0
def nodesErrR (leaves : List Int) (nodes : List Node) : Int × Int := if 400 < nodes.length then (0, 8) else eachP (nodeErrS leaves nodes) 0 nodes
def netErrR (n : Netl) : Int × Int :=
  if isNameS n.name = false then (0, 4)
  else if (portsErrR n.inputs).2 ≠ 0 then portsErrR n.inputs
  else if 40 < n.inputs.length + n.regs.length then (0, 8)
  else if (eachP (regErrR n) 0 n.regs).2 ≠ 0 then eachP (regErrR n) 0 n.regs
  else if (nodesErrR (leavesN n) n.nodes).2 ≠ 0 then nodesErrR (leavesN n) n.nodes
  else if (eachP (regErr2S n) 0 n.regs).2 ≠ 0 then eachP (regErr2S n) 0 n.regs
  else outsErrR n.nodes n.outs
end Go.E
/- Contracts of the references' base, in E: ports, outputs. Own work. -/
namespace Go.E
open Go.Proofs
set_option maxRecDepth 100000
set_option maxHeartbeats 4000000

theorem bs_nodesErr (bs : List Nat) (H : Heap) (leaves : List Int) (nodes : List Node) (hl : leaves.length ≤ 1000000) (hn : nodes.length ≤ 1000000) (hal : ∀ x ∈ nodes, x.args.length ≤ 1000000) : callw X bs 86 [.list (leaves.map (.int .i64)), .list (nodes.map encNode)] H = some (.tuple [.int .i64 (nodesErrR leaves nodes).1, .int .i64 (nodesErrR leaves nodes).2], H) := by
  refine call_at (rs := [.tmp 4, .tmp 5]) (N := 25) (fn := Tryz.f86) xk86 xf86 rfl rfl rfl (by simp only [seval, push_cast, List.map_cons, List.map_nil, V.norm, norm1]; rfl) ?_
  have key : ∀ (R : Int × Int) (bs : List Nat) i ρ H', i ≤ nodes.length → (H' = H ∧ ρ 0 = .list (leaves.map (.int .i64)) ∧ ρ 1 = .list (nodes.map encNode) ∧ ρ 6 = .int .i64 i ∧ Kp (eachP (nodeErrS leaves nodes) i (nodes.drop i) = R)) →
      Lp X ⟨25, bs⟩ (loopAt Tryz.f86 0) ρ H' fun ex ρ' H' => H' = H ∧ ((ex = .exit 0 ∧ R = (0, 0)) ∨ (ex = .ret ∧ ρ' 4 = .int .i64 R.1 ∧ ρ' 5 = .int .i64 R.2)) := by
    intro R bs
    refine loop_up ?_ ?_
    · rintro i ρ H' hi ⟨rfl, h0, h1, h6, hR⟩
      have hget : nodes[i]? = some nodes[i] := by simp [hi]
      have hne := fun bs H => bs_nodeErr bs H leaves nodes i nodes[i] hget hl hn (hal _ (List.getElem_mem hi))
      have hw := add1 i nodes.length hi hn
      replace hR := hR.out
      rw [drop_cons hget, eachP] at hR
      generalize nodeErrS leaves nodes i nodes[i] = e at hne hR
      replace hR : Kp ((if e ≠ 0 then ((i : Int), e) else eachP (nodeErrS leaves nodes) (i + 1) (nodes.drop (i + 1))) = R) := ⟨hR⟩
      clear hget hal
      conv => arg 3; whnf
      repeat' first
       | apply z1 | apply z2
       | apply z3 | apply z4 | apply z5 | apply z6 | apply z7 | apply z8 | apply z9 | apply z10 | apply z11 | apply z12 | apply z13 | apply z14 | apply z15 | apply z18 | apply z19 | apply z20 | apply z21 | apply z22 | apply z23 | (apply z16; rfl) | (apply z17; decide)
       | ((first | apply z30 | apply z31 | ((first | apply z32 | apply z33); (simp only [seval, push_cast, *] <;> fail))); (simp only [seval, push_cast, *]; with_reducible rfl); try exact of_decide_eq_true rfl)
       | ((first | apply z34 | apply z35); (simp only [seval, push_cast, *] <;> fail); try exact of_decide_eq_true rfl)
       | ((first | (apply z24; (simp only [seval, push_cast, *]; with_reducible rfl)) | (apply z36; (simp only [seval, push_cast, *]; (fail_if_success (show _ = some true)); (fail_if_success (show _ = some false)); with_reducible rfl))); all_goals (intro hc; (try simp only [Bool.not_eq_true', Bool.not_eq_false'] at hc); (try (exact absurd hc Bool.noConfusion)); (first | have hq := dle_true hc | have hq := dlt_true hc | have hq := dle_false hc | have hq := dlt_false hc | skip); (try (exfalso; simp only [decide_eq_true_eq, decide_eq_false_iff_not] at hc; first | omega | (have := hk.out; omega)))))
       | ((first | apply z40 | apply z41 | (apply z42; (simp only [seval, push_cast, *]; with_reducible rfl))); (simp only [seval, push_cast, *]; with_reducible rfl); all_goals (first | (simp only [seval, push_cast, *] <;> fail) | (simp only [seval, push_cast] <;> fail) | (rw [frz_pure rfl] <;> (simp [*] <;> fail))))
      · have hc : e ≠ 0 := by simpa using hc
        rw [← hR.out, if_pos hc]
        exact ⟨rfl, .inr ⟨rfl, by (first | (simp only [seval, push_cast, *]; done) | (simp only [seval, push_cast, *]; rfl)), by (first | (simp only [seval, push_cast, *]; done) | (simp only [seval, push_cast, *]; rfl))⟩⟩
      · have hc : e = 0 := by simpa using hc
        exact ⟨rfl, by (first | (simp only [seval, push_cast, *]; done) | (simp only [seval, push_cast, *]; rfl)), by (first | (simp only [seval, push_cast, *]; done) | (simp only [seval, push_cast, *]; rfl)), by (first | (simp only [seval, push_cast, *]; done) | (simp only [seval, push_cast, *]; rfl)), ⟨by rw [← hR.out, if_neg (by simp [hc])]⟩⟩
    · rintro ρ H' ⟨rfl, h0, h1, h6, hR⟩
      replace hR := hR.out
      rw [List.drop_length, eachP] at hR
      replace hR : Kp ((0, 0) = R) := ⟨hR⟩
      clear hal
      conv => arg 3; whnf
      repeat' first
       | apply z1 | apply z2
       | apply z3 | apply z4 | apply z5 | apply z6 | apply z7 | apply z8 | apply z9 | apply z10 | apply z11 | apply z12 | apply z13 | apply z14 | apply z15 | apply z18 | apply z19 | apply z20 | apply z21 | apply z22 | apply z23 | (apply z16; rfl) | (apply z17; decide)
       | ((first | apply z30 | apply z31 | ((first | apply z32 | apply z33); (simp only [seval, push_cast, *] <;> fail))); (simp only [seval, push_cast, *]; with_reducible rfl); try exact of_decide_eq_true rfl)
       | ((first | apply z34 | apply z35); (simp only [seval, push_cast, *] <;> fail); try exact of_decide_eq_true rfl)
       | ((first | (apply z24; (simp only [seval, push_cast, *]; with_reducible rfl)) | (apply z36; (simp only [seval, push_cast, *]; (fail_if_success (show _ = some true)); (fail_if_success (show _ = some false)); with_reducible rfl))); all_goals (intro hc; (try simp only [Bool.not_eq_true', Bool.not_eq_false'] at hc); (try (exact absurd hc Bool.noConfusion)); (first | have hq := dle_true hc | have hq := dlt_true hc | have hq := dle_false hc | have hq := dlt_false hc | skip); (try (exfalso; simp only [decide_eq_true_eq, decide_eq_false_iff_not] at hc; first | omega | (have := hk.out; omega)))))
       | ((first | apply z40 | apply z41 | (apply z42; (simp only [seval, push_cast, *]; with_reducible rfl))); (simp only [seval, push_cast, *]; with_reducible rfl); all_goals (first | (simp only [seval, push_cast, *] <;> fail) | (simp only [seval, push_cast] <;> fail) | (rw [frz_pure rfl] <;> (simp [*] <;> fail))))
      exact ⟨rfl, .inl ⟨rfl, hR.out.symm⟩⟩
  clear hal
  unfold nodesErrR
  by_cases h : 400 < nodes.length
  · rw [if_pos h]
    have d : (400 : Int) < nodes.length := by omega
    clear key
    repeat' first
     | apply z1 | apply z2
     | apply z3 | apply z4 | apply z5 | apply z6 | apply z7 | apply z8 | apply z9 | apply z10 | apply z11 | apply z12 | apply z13 | apply z14 | apply z15 | apply z18 | apply z19 | apply z20 | apply z21 | apply z22 | apply z23 | (apply z16; rfl) | (apply z17; decide)
     | ((first | apply z30 | apply z31 | ((first | apply z32 | apply z33); (simp only [seval, push_cast, *] <;> fail))); (simp only [seval, push_cast, *]; with_reducible rfl); try exact of_decide_eq_true rfl)
     | ((first | apply z34 | apply z35); (simp only [seval, push_cast, *] <;> fail); try exact of_decide_eq_true rfl)
     | ((first | (apply z24; (simp only [seval, push_cast, *]; with_reducible rfl)) | (apply z36; (simp only [seval, push_cast, *]; (fail_if_success (show _ = some true)); (fail_if_success (show _ = some false)); with_reducible rfl))); all_goals (intro hc; (try simp only [Bool.not_eq_true', Bool.not_eq_false'] at hc); (try (exact absurd hc Bool.noConfusion)); (first | have hq := dle_true hc | have hq := dlt_true hc | have hq := dle_false hc | have hq := dlt_false hc | skip); (try (exfalso; simp only [decide_eq_true_eq, decide_eq_false_iff_not] at hc; first | omega | (have := hk.out; omega)))))
     | ((first | apply z40 | apply z41 | (apply z42; (simp only [seval, push_cast, *]; with_reducible rfl))); (simp only [seval, push_cast, *]; with_reducible rfl); all_goals (first | (simp only [seval, push_cast, *] <;> fail) | (simp only [seval, push_cast] <;> fail) | (rw [frz_pure rfl] <;> (simp [*] <;> fail))))
  rw [if_neg h]
  have d : decide ((400 : Int) < nodes.length) = false := decide_eq_false (by omega)
  repeat' first
   | apply z1 | apply z2
   | apply z3 | apply z4 | apply z5 | apply z6 | apply z7 | apply z8 | apply z9 | apply z10 | apply z11 | apply z12 | apply z13 | apply z14 | apply z15 | apply z18 | apply z19 | apply z20 | apply z21 | apply z22 | apply z23 | (apply z16; rfl) | (apply z17; decide)
   | ((first | apply z30 | apply z31 | ((first | apply z32 | apply z33); (simp only [seval, push_cast, *] <;> fail))); (simp only [seval, push_cast, *]; with_reducible rfl); try exact of_decide_eq_true rfl)
   | ((first | apply z34 | apply z35); (simp only [seval, push_cast, *] <;> fail); try exact of_decide_eq_true rfl)
   | ((first | (apply z24; (simp only [seval, push_cast, *]; with_reducible rfl)) | (apply z36; (simp only [seval, push_cast, *]; (fail_if_success (show _ = some true)); (fail_if_success (show _ = some false)); with_reducible rfl))); all_goals (intro hc; (try simp only [Bool.not_eq_true', Bool.not_eq_false'] at hc); (try (exact absurd hc Bool.noConfusion)); (first | have hq := dle_true hc | have hq := dlt_true hc | have hq := dle_false hc | have hq := dlt_false hc | skip); (try (exfalso; simp only [decide_eq_true_eq, decide_eq_false_iff_not] at hc; first | omega | (have := hk.out; omega)))))
   | ((first | apply z40 | apply z41 | (apply z42; (simp only [seval, push_cast, *]; with_reducible rfl))); (simp only [seval, push_cast, *]; with_reducible rfl); all_goals (first | (simp only [seval, push_cast, *] <;> fail) | (simp only [seval, push_cast] <;> fail) | (rw [frz_pure rfl] <;> (simp [*] <;> fail))))
  refine lp_then (lp_any (c := loopAt Tryz.f86 0) rfl (key (eachP (nodeErrS leaves nodes) 0 nodes) _ 0 _ _ (by omega) ⟨rfl, by (first | (simp only [seval, push_cast, *]; done) | (simp only [seval, push_cast, *]; rfl)), by (first | (simp only [seval, push_cast, *]; done) | (simp only [seval, push_cast, *]; rfl)), by (first | (simp only [seval, push_cast, *]; done) | (simp only [seval, push_cast, *]; rfl)), ⟨rfl⟩⟩)) ?_
  clear key
  rintro ex ρ' H' ⟨rfl, ⟨rfl, h2⟩ | ⟨rfl, h2, h3⟩⟩ -
  · rw [h2]
    repeat' first
     | apply z1 | apply z2
     | apply z3 | apply z4 | apply z5 | apply z6 | apply z7 | apply z8 | apply z9 | apply z10 | apply z11 | apply z12 | apply z13 | apply z14 | apply z15 | apply z18 | apply z19 | apply z20 | apply z21 | apply z22 | apply z23 | (apply z16; rfl) | (apply z17; decide)
     | ((first | apply z30 | apply z31 | ((first | apply z32 | apply z33); (simp only [seval, push_cast, *] <;> fail))); (simp only [seval, push_cast, *]; with_reducible rfl); try exact of_decide_eq_true rfl)
     | ((first | apply z34 | apply z35); (simp only [seval, push_cast, *] <;> fail); try exact of_decide_eq_true rfl)
     | ((first | (apply z24; (simp only [seval, push_cast, *]; with_reducible rfl)) | (apply z36; (simp only [seval, push_cast, *]; (fail_if_success (show _ = some true)); (fail_if_success (show _ = some false)); with_reducible rfl))); all_goals (intro hc; (try simp only [Bool.not_eq_true', Bool.not_eq_false'] at hc); (try (exact absurd hc Bool.noConfusion)); (first | have hq := dle_true hc | have hq := dlt_true hc | have hq := dle_false hc | have hq := dlt_false hc | skip); (try (exfalso; simp only [decide_eq_true_eq, decide_eq_false_iff_not] at hc; first | omega | (have := hk.out; omega)))))
     | ((first | apply z40 | apply z41 | (apply z42; (simp only [seval, push_cast, *]; with_reducible rfl))); (simp only [seval, push_cast, *]; with_reducible rfl); all_goals (first | (simp only [seval, push_cast, *] <;> fail) | (simp only [seval, push_cast] <;> fail) | (rw [frz_pure rfl] <;> (simp [*] <;> fail))))
  · repeat' first
     | apply z1 | apply z2
     | apply z3 | apply z4 | apply z5 | apply z6 | apply z7 | apply z8 | apply z9 | apply z10 | apply z11 | apply z12 | apply z13 | apply z14 | apply z15 | apply z18 | apply z19 | apply z20 | apply z21 | apply z22 | apply z23 | (apply z16; rfl) | (apply z17; decide)
     | ((first | apply z30 | apply z31 | ((first | apply z32 | apply z33); (simp only [seval, push_cast, *] <;> fail))); (simp only [seval, push_cast, *]; with_reducible rfl); try exact of_decide_eq_true rfl)
     | ((first | apply z34 | apply z35); (simp only [seval, push_cast, *] <;> fail); try exact of_decide_eq_true rfl)
     | ((first | (apply z24; (simp only [seval, push_cast, *]; with_reducible rfl)) | (apply z36; (simp only [seval, push_cast, *]; (fail_if_success (show _ = some true)); (fail_if_success (show _ = some false)); with_reducible rfl))); all_goals (intro hc; (try simp only [Bool.not_eq_true', Bool.not_eq_false'] at hc); (try (exact absurd hc Bool.noConfusion)); (first | have hq := dle_true hc | have hq := dlt_true hc | have hq := dle_false hc | have hq := dlt_false hc | skip); (try (exfalso; simp only [decide_eq_true_eq, decide_eq_false_iff_not] at hc; first | omega | (have := hk.out; omega)))))
     | ((first | apply z40 | apply z41 | (apply z42; (simp only [seval, push_cast, *]; with_reducible rfl))); (simp only [seval, push_cast, *]; with_reducible rfl); all_goals (first | (simp only [seval, push_cast, *] <;> fail) | (simp only [seval, push_cast] <;> fail) | (rw [frz_pure rfl] <;> (simp [*] <;> fail))))

/-- Whether an earlier one has this name (bs_portDup). -/
theorem bs_portDup (bs : List Nat) (H : Heap) (l : List Port) (i : Nat) (p : Port) (hp : l[i]? = some p) (hl : l.length ≤ 1000000) (R : Bool) :
    ∀ j ρ H', j ≤ i → (H' = H ∧ ρ 0 = .list (l.map encPort) ∧ ρ 4 = .int .i64 i ∧ ρ 5 = .int .i64 j ∧ Kp (((l.take i).drop j).any (fun q => decide (q.name = p.name)) = R)) →
      Lp X ⟨48, bs⟩ (loopAt Tryz.f83 1) ρ H' fun ex ρ' H' => H' = H ∧ ((ex = .exit 2 ∧ R = false) ∨ (ex = .ret ∧ ρ' 2 = .int .i64 i ∧ ρ' 3 = .int .i64 5 ∧ R = true)) := by
  have hi := (List.getElem?_eq_some_iff.1 hp).1
  refine loop_up ?_ ?_
  · rintro j ρ H' hj ⟨rfl, h0, h4, h5, hR⟩
    have hget : l[j]? = some l[j] := by simp [show j < l.length by omega]
    have hget2 : (l.take i)[j]? = some l[j] := by rw [List.getElem?_take, if_pos hj]; exact hget
    generalize l[j] = q at hget hget2
    have hw := add1 j i hj (by omega)
    replace hR := hR.out
    rw [drop_cons hget2, List.any_cons] at hR
    replace hR : Kp ((decide (q.name = p.name) || ((l.take i).drop (j + 1)).any (fun q => decide (q.name = p.name))) = R) := ⟨hR⟩
    clear hget2
    have hlt : (j : Int) < i := by omega
    conv => arg 3; whnf
    repeat' first
     | apply z1 | apply z2
     | (apply z50 (id := 11) (ord := [0, 1, 2, 3, 4, 5, 6, 7, 8, 9, 10]) <;> first | kernel_rfl | skip)
     | apply z52
     | (apply chkK_intro; (repeat ((first | (apply zc1; rfl) | (apply zc2; rfl) | (apply zc3; rfl; exact fun _ _ _ _ => rfl)); rfl; rfl; (first | rfl | (simp only [seval, push_cast, *] <;> fail)))); exact chk_nil)
     | ((first | (apply z54; rfl) | (apply z55; rfl) | ((first | (apply z56; rfl) | (apply z57; rfl)); (simp only [seval, push_cast, *] <;> fail))); (simp only [seval, push_cast, *]; with_reducible rfl); try exact of_decide_eq_true rfl)
     | ((first | (apply z58; rfl) | (apply z59; rfl)); (simp only [seval, push_cast, *] <;> fail); try exact of_decide_eq_true rfl)
     | apply z3 | apply z4 | apply z5 | apply z6 | apply z7 | apply z8 | apply z9 | apply z10 | apply z11 | apply z12 | apply z13 | apply z14 | apply z15 | apply z18 | apply z19 | apply z20 | apply z21 | apply z22 | apply z23 | (apply z16; rfl) | (apply z17; decide)
     | ((first | apply z30 | apply z31 | ((first | apply z32 | apply z33); (simp only [seval, push_cast, *] <;> fail))); (simp only [seval, push_cast, *]; with_reducible rfl); try exact of_decide_eq_true rfl)
     | ((first | apply z34 | apply z35); (simp only [seval, push_cast, *] <;> fail); try exact of_decide_eq_true rfl)
     | ((first | (apply z24; (simp only [seval, push_cast, *]; with_reducible rfl)) | (apply z36; (simp only [seval, push_cast, *]; (fail_if_success (show _ = some true)); (fail_if_success (show _ = some false)); with_reducible rfl)) | (apply z60; rfl; (simp only [seval, push_cast, *]; (fail_if_success (show _ = some true)); (fail_if_success (show _ = some false)); with_reducible rfl))); all_goals (intro hc; (try simp only [Bool.not_eq_true', Bool.not_eq_false'] at hc); (try (exact absurd hc Bool.noConfusion)); (first | have hq := dle_true hc | have hq := dlt_true hc | have hq := dle_false hc | have hq := dlt_false hc | skip); (try (exfalso; simp only [decide_eq_true_eq, decide_eq_false_iff_not] at hc; first | omega | (have := hk.out; omega)))))
     | ((first | apply z40 | apply z41 | (apply z42; (simp only [seval, push_cast, *]; with_reducible rfl))); (simp only [seval, push_cast, *]; with_reducible rfl); all_goals (first | (simp only [seval, push_cast, *] <;> fail) | (simp only [seval, push_cast] <;> fail) | (rw [frz_pure rfl] <;> (simp [*] <;> fail))))
    all_goals replace hR := hR.out
    · rw [hc] at hR
      exact ⟨rfl, .inr ⟨rfl, by (first | (simp only [seval, push_cast, *]; done) | (simp only [seval, push_cast, *]; rfl)), by (first | (simp only [seval, push_cast, *]; done) | (simp only [seval, push_cast, *]; rfl)), by rw [← hR]; rfl⟩⟩
    · rw [hc] at hR
      exact ⟨rfl, by (first | (simp only [seval, push_cast, *]; done) | (simp only [seval, push_cast, *]; rfl)), by (first | (simp only [seval, push_cast, *]; done) | (simp only [seval, push_cast, *]; rfl)), by (first | (simp only [seval, push_cast, *]; done) | (simp only [seval, push_cast, *]; rfl)), ⟨by rw [← hR]; rfl⟩⟩
  · rintro ρ H' ⟨rfl, h0, h4, h5, hR⟩
    replace hR := hR.out
    rw [List.drop_of_length_le (by rw [List.length_take]; omega), List.any_nil] at hR
    replace hR : Kp (false = R) := ⟨hR⟩
    conv => arg 3; whnf
    repeat' first
     | apply z1 | apply z2
     | (apply z50 (id := 11) (ord := [0, 1, 2, 3, 4, 5, 6, 7, 8, 9, 10]) <;> first | kernel_rfl | skip)
     | apply z52
     | (apply chkK_intro; (repeat ((first | (apply zc1; rfl) | (apply zc2; rfl) | (apply zc3; rfl; exact fun _ _ _ _ => rfl)); rfl; rfl; (first | rfl | (simp only [seval, push_cast, *] <;> fail)))); exact chk_nil)
     | ((first | (apply z54; rfl) | (apply z55; rfl) | ((first | (apply z56; rfl) | (apply z57; rfl)); (simp only [seval, push_cast, *] <;> fail))); (simp only [seval, push_cast, *]; with_reducible rfl); try exact of_decide_eq_true rfl)
     | ((first | (apply z58; rfl) | (apply z59; rfl)); (simp only [seval, push_cast, *] <;> fail); try exact of_decide_eq_true rfl)
     | apply z3 | apply z4 | apply z5 | apply z6 | apply z7 | apply z8 | apply z9 | apply z10 | apply z11 | apply z12 | apply z13 | apply z14 | apply z15 | apply z18 | apply z19 | apply z20 | apply z21 | apply z22 | apply z23 | (apply z16; rfl) | (apply z17; decide)
     | ((first | apply z30 | apply z31 | ((first | apply z32 | apply z33); (simp only [seval, push_cast, *] <;> fail))); (simp only [seval, push_cast, *]; with_reducible rfl); try exact of_decide_eq_true rfl)
     | ((first | apply z34 | apply z35); (simp only [seval, push_cast, *] <;> fail); try exact of_decide_eq_true rfl)
     | ((first | (apply z24; (simp only [seval, push_cast, *]; with_reducible rfl)) | (apply z36; (simp only [seval, push_cast, *]; (fail_if_success (show _ = some true)); (fail_if_success (show _ = some false)); with_reducible rfl)) | (apply z60; rfl; (simp only [seval, push_cast, *]; (fail_if_success (show _ = some true)); (fail_if_success (show _ = some false)); with_reducible rfl))); all_goals (intro hc; (try simp only [Bool.not_eq_true', Bool.not_eq_false'] at hc); (try (exact absurd hc Bool.noConfusion)); (first | have hq := dle_true hc | have hq := dlt_true hc | have hq := dle_false hc | have hq := dlt_false hc | skip); (try (exfalso; simp only [decide_eq_true_eq, decide_eq_false_iff_not] at hc; first | omega | (have := hk.out; omega)))))
     | ((first | apply z40 | apply z41 | (apply z42; (simp only [seval, push_cast, *]; with_reducible rfl))); (simp only [seval, push_cast, *]; with_reducible rfl); all_goals (first | (simp only [seval, push_cast, *] <;> fail) | (simp only [seval, push_cast] <;> fail) | (rw [frz_pure rfl] <;> (simp [*] <;> fail))))
    exact ⟨rfl, .inl ⟨rfl, hR.out.symm⟩⟩

/-- Whether an earlier one has this name (bs_outDup). -/
theorem bs_outDup (bs : List Nat) (H : Heap) (l : List Outp) (i : Nat) (p : Outp) (hp : l[i]? = some p) (hl : l.length ≤ 1000000) (R : Bool) :
    ∀ j ρ H', j ≤ i → (H' = H ∧ ρ 1 = .list (l.map encOutp) ∧ ρ 6 = .int .i64 i ∧ ρ 7 = .int .i64 j ∧ Kp (((l.take i).drop j).any (fun q => decide (q.name = p.name)) = R)) →
      Lp X ⟨51, bs⟩ (loopAt Tryz.f90 1) ρ H' fun ex ρ' H' => H' = H ∧ ((ex = .exit 2 ∧ R = false) ∨ (ex = .ret ∧ ρ' 4 = .int .i64 i ∧ ρ' 5 = .int .i64 5 ∧ R = true)) := by
  have hi := (List.getElem?_eq_some_iff.1 hp).1
  refine loop_up ?_ ?_
  · rintro j ρ H' hj ⟨rfl, h0, h4, h5, hR⟩
    have hget : l[j]? = some l[j] := by simp [show j < l.length by omega]
    have hget2 : (l.take i)[j]? = some l[j] := by rw [List.getElem?_take, if_pos hj]; exact hget
    generalize l[j] = q at hget hget2
    have hw := add1 j i hj (by omega)
    replace hR := hR.out
    rw [drop_cons hget2, List.any_cons] at hR
    replace hR : Kp ((decide (q.name = p.name) || ((l.take i).drop (j + 1)).any (fun q => decide (q.name = p.name))) = R) := ⟨hR⟩
    clear hget2
    have hlt : (j : Int) < i := by omega
    conv => arg 3; whnf
    repeat' first
     | apply z1 | apply z2
     | (apply z50 (id := 11) (ord := [0, 1, 2, 3, 4, 5, 6, 7, 8, 9, 10]) <;> first | kernel_rfl | skip)
     | apply z52
     | (apply chkK_intro; (repeat ((first | (apply zc1; rfl) | (apply zc2; rfl) | (apply zc3; rfl; exact fun _ _ _ _ => rfl)); rfl; rfl; (first | rfl | (simp only [seval, push_cast, *] <;> fail)))); exact chk_nil)
     | ((first | (apply z54; rfl) | (apply z55; rfl) | ((first | (apply z56; rfl) | (apply z57; rfl)); (simp only [seval, push_cast, *] <;> fail))); (simp only [seval, push_cast, *]; with_reducible rfl); try exact of_decide_eq_true rfl)
     | ((first | (apply z58; rfl) | (apply z59; rfl)); (simp only [seval, push_cast, *] <;> fail); try exact of_decide_eq_true rfl)
     | apply z3 | apply z4 | apply z5 | apply z6 | apply z7 | apply z8 | apply z9 | apply z10 | apply z11 | apply z12 | apply z13 | apply z14 | apply z15 | apply z18 | apply z19 | apply z20 | apply z21 | apply z22 | apply z23 | (apply z16; rfl) | (apply z17; decide)
     | ((first | apply z30 | apply z31 | ((first | apply z32 | apply z33); (simp only [seval, push_cast, *] <;> fail))); (simp only [seval, push_cast, *]; with_reducible rfl); try exact of_decide_eq_true rfl)
     | ((first | apply z34 | apply z35); (simp only [seval, push_cast, *] <;> fail); try exact of_decide_eq_true rfl)
     | ((first | (apply z24; (simp only [seval, push_cast, *]; with_reducible rfl)) | (apply z36; (simp only [seval, push_cast, *]; (fail_if_success (show _ = some true)); (fail_if_success (show _ = some false)); with_reducible rfl)) | (apply z60; rfl; (simp only [seval, push_cast, *]; (fail_if_success (show _ = some true)); (fail_if_success (show _ = some false)); with_reducible rfl))); all_goals (intro hc; (try simp only [Bool.not_eq_true', Bool.not_eq_false'] at hc); (try (exact absurd hc Bool.noConfusion)); (first | have hq := dle_true hc | have hq := dlt_true hc | have hq := dle_false hc | have hq := dlt_false hc | skip); (try (exfalso; simp only [decide_eq_true_eq, decide_eq_false_iff_not] at hc; first | omega | (have := hk.out; omega)))))
     | ((first | apply z40 | apply z41 | (apply z42; (simp only [seval, push_cast, *]; with_reducible rfl))); (simp only [seval, push_cast, *]; with_reducible rfl); all_goals (first | (simp only [seval, push_cast, *] <;> fail) | (simp only [seval, push_cast] <;> fail) | (rw [frz_pure rfl] <;> (simp [*] <;> fail))))
    all_goals replace hR := hR.out
    · rw [hc] at hR
      exact ⟨rfl, .inr ⟨rfl, by (first | (simp only [seval, push_cast, *]; done) | (simp only [seval, push_cast, *]; rfl)), by (first | (simp only [seval, push_cast, *]; done) | (simp only [seval, push_cast, *]; rfl)), by rw [← hR]; rfl⟩⟩
    · rw [hc] at hR
      exact ⟨rfl, by (first | (simp only [seval, push_cast, *]; done) | (simp only [seval, push_cast, *]; rfl)), by (first | (simp only [seval, push_cast, *]; done) | (simp only [seval, push_cast, *]; rfl)), by (first | (simp only [seval, push_cast, *]; done) | (simp only [seval, push_cast, *]; rfl)), ⟨by rw [← hR]; rfl⟩⟩
  · rintro ρ H' ⟨rfl, h0, h4, h5, hR⟩
    replace hR := hR.out
    rw [List.drop_of_length_le (by rw [List.length_take]; omega), List.any_nil] at hR
    replace hR : Kp (false = R) := ⟨hR⟩
    conv => arg 3; whnf
    repeat' first
     | apply z1 | apply z2
     | (apply z50 (id := 11) (ord := [0, 1, 2, 3, 4, 5, 6, 7, 8, 9, 10]) <;> first | kernel_rfl | skip)
     | apply z52
     | (apply chkK_intro; (repeat ((first | (apply zc1; rfl) | (apply zc2; rfl) | (apply zc3; rfl; exact fun _ _ _ _ => rfl)); rfl; rfl; (first | rfl | (simp only [seval, push_cast, *] <;> fail)))); exact chk_nil)
     | ((first | (apply z54; rfl) | (apply z55; rfl) | ((first | (apply z56; rfl) | (apply z57; rfl)); (simp only [seval, push_cast, *] <;> fail))); (simp only [seval, push_cast, *]; with_reducible rfl); try exact of_decide_eq_true rfl)
     | ((first | (apply z58; rfl) | (apply z59; rfl)); (simp only [seval, push_cast, *] <;> fail); try exact of_decide_eq_true rfl)
     | apply z3 | apply z4 | apply z5 | apply z6 | apply z7 | apply z8 | apply z9 | apply z10 | apply z11 | apply z12 | apply z13 | apply z14 | apply z15 | apply z18 | apply z19 | apply z20 | apply z21 | apply z22 | apply z23 | (apply z16; rfl) | (apply z17; decide)
     | ((first | apply z30 | apply z31 | ((first | apply z32 | apply z33); (simp only [seval, push_cast, *] <;> fail))); (simp only [seval, push_cast, *]; with_reducible rfl); try exact of_decide_eq_true rfl)
     | ((first | apply z34 | apply z35); (simp only [seval, push_cast, *] <;> fail); try exact of_decide_eq_true rfl)
     | ((first | (apply z24; (simp only [seval, push_cast, *]; with_reducible rfl)) | (apply z36; (simp only [seval, push_cast, *]; (fail_if_success (show _ = some true)); (fail_if_success (show _ = some false)); with_reducible rfl)) | (apply z60; rfl; (simp only [seval, push_cast, *]; (fail_if_success (show _ = some true)); (fail_if_success (show _ = some false)); with_reducible rfl))); all_goals (intro hc; (try simp only [Bool.not_eq_true', Bool.not_eq_false'] at hc); (try (exact absurd hc Bool.noConfusion)); (first | have hq := dle_true hc | have hq := dlt_true hc | have hq := dle_false hc | have hq := dlt_false hc | skip); (try (exfalso; simp only [decide_eq_true_eq, decide_eq_false_iff_not] at hc; first | omega | (have := hk.out; omega)))))
     | ((first | apply z40 | apply z41 | (apply z42; (simp only [seval, push_cast, *]; with_reducible rfl))); (simp only [seval, push_cast, *]; with_reducible rfl); all_goals (first | (simp only [seval, push_cast, *] <;> fail) | (simp only [seval, push_cast] <;> fail) | (rw [frz_pure rfl] <;> (simp [*] <;> fail))))
    exact ⟨rfl, .inl ⟨rfl, hR.out.symm⟩⟩

end Go.E
