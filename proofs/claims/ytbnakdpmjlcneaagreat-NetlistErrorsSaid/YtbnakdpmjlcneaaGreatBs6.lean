/- Contracts of the references' base, in E: outputs, leaves. Own work. -/
import Derived.Test.YtbnakdpmjlcneaaGreatBs5
set_option linter.all false
namespace Go.E
open Go.Proofs
set_option maxRecDepth 100000
set_option maxHeartbeats 4000000

theorem bs_outsErr (bs : List Nat) (H : Heap) (nodes : List Node) (l : List Outp) (hn : nodes.length ≤ 1000000) (hl : l.length ≤ 1000000) (hs : ∀ p ∈ l, p.name.size ≤ 1000000) : callw X bs 90 [.list (nodes.map encNode), .list (l.map encOutp)] H = some (.tuple [.int .i64 (outsErrR nodes l).1, .int .i64 (outsErrR nodes l).2], H) := by
  refine call_at (rs := [.tmp 4, .tmp 5]) (N := 51) (fn := Tryz.f90) xk90 xf90 rfl rfl rfl (by simp only [seval, push_cast, List.map_cons, List.map_nil, V.norm, norm1]; rfl) ?_
  have key : ∀ (R : Int × Int) (bs : List Nat) i ρ H', i ≤ l.length → (H' = H ∧ ρ 0 = .list (nodes.map encNode) ∧ ρ 1 = .list (l.map encOutp) ∧ ρ 6 = .int .i64 i ∧ Kp (eachP (outErrR nodes l) i (l.drop i) = R)) →
      Lp X ⟨51, bs⟩ (loopAt Tryz.f90 0) ρ H' fun ex ρ' H' => H' = H ∧ ((ex = .exit 0 ∧ R = (0, 0)) ∨ (ex = .ret ∧ ρ' 4 = .int .i64 R.1 ∧ ρ' 5 = .int .i64 R.2)) := by
    intro R bs
    refine loop_up ?_ ?_
    · rintro i ρ H' hi ⟨rfl, h0, h1, h6, hR⟩
      have hget : l[i]? = some l[i] := by simp [hi]
      have hnm := fun bs H => bs_isName bs H l[i].name (hs _ (List.getElem_mem hi))
      have hw := add1 i l.length hi hl
      replace hR := hR.out
      rw [drop_cons hget, eachP] at hR
      have hin := fun bs ρ => bs_outDup bs H' l i l[i] hget hl ((l.take i).any (fun q => decide (q.name = l[i].name))) 0 ρ
      generalize l[i] = p at hget hnm hR hin
      clear hs
      cases hN : isNameS p.name with
      | false =>
        have he : outErrR nodes l i p = 4 := by unfold outErrR; rw [if_pos hN]
        rw [he, if_pos (by decide)] at hR
        replace hR : Kp (((i : Int), (4 : Int)) = R) := ⟨hR⟩
        clear he
        clear hin
        conv => arg 3; whnf
        repeat' first
         | apply z1 | apply z2
         | (apply z50 (id := 11) (ord := [0, 1, 2, 3, 4, 5, 6, 7, 8, 9, 10]) <;> first | kernel_rfl | skip)
         | apply z52
         | (apply chkK_intro; (repeat ((first | (apply zc1; rfl) | (apply zc2; rfl) | (apply zc3; rfl; exact fun _ _ _ _ => rfl)); rfl; rfl; (first | rfl | (simp only [seval, push_cast, *] <;> fail)))); exact chk_nil)
         | ((first | (apply z54; rfl) | (apply z55; rfl) | ((first | (apply z56; rfl) | (apply z57; rfl)); (simp only [seval, push_cast, *] <;> fail))); (simp only [seval, push_cast, *]; with_reducible rfl); try exact of_decide_eq_true rfl)
         | ((first | (apply z58; rfl) | (apply z59; rfl)); (simp only [seval, push_cast, *] <;> fail); try exact of_decide_eq_true rfl)
         | apply z3 | apply z4 | apply z5 | apply z6 | apply z7 | apply z8 | apply z9 | apply z10 | apply z11 | apply z12 | apply z13 | apply z14 | apply z15 | apply z18 | apply z19 | apply z20 | apply z21 | apply z22 | apply z23 | (apply z16; rfl) | (apply z17; decide)
         | ((first | apply z30 | apply z31 | ((first | apply z32 | apply z33); (simp only [seval, push_cast, *] <;> fail))); (simp only [seval, push_cast, *]; with_reducible rfl); try exact of_decide_eq_true rfl)
         | ((first | apply z34 | apply z35); (simp only [seval, push_cast, *] <;> fail); try exact of_decide_eq_true rfl)
         | ((first | (apply z24; (simp only [seval, push_cast, *]; with_reducible rfl)) | (apply z36; (simp only [seval, push_cast, *]; (fail_if_success (show _ = some true)); (fail_if_success (show _ = some false)); with_reducible rfl)) | (apply z60; rfl; (simp only [seval, push_cast, *]; (fail_if_success (show _ = some true)); (fail_if_success (show _ = some false)); with_reducible rfl))); all_goals (intro hc; (try simp only [Bool.not_eq_true', Bool.not_eq_false'] at hc); (try (exact absurd hc Bool.noConfusion)); (first | have hq := dle_true hc | have hq := dlt_true hc | have hq := dle_false hc | have hq := dlt_false hc | skip); (try (exfalso; simp only [decide_eq_true_eq, decide_eq_false_iff_not] at hc; first | omega | (have := hk.out; omega)))))
         | ((first | apply z40 | apply z41 | (apply z42; (simp only [seval, push_cast, *]; with_reducible rfl))); (simp only [seval, push_cast, *]; with_reducible rfl); all_goals (first | (simp only [seval, push_cast, *] <;> fail) | (simp only [seval, push_cast] <;> fail) | (rw [frz_pure rfl] <;> (simp [*] <;> fail))))
        exact ⟨rfl, .inr ⟨rfl, by rw [← hR.out]; (first | (simp only [seval, push_cast, *]; done) | (simp only [seval, push_cast, *]; rfl)), by rw [← hR.out]; (first | (simp only [seval, push_cast, *]; done) | (simp only [seval, push_cast, *]; rfl))⟩⟩
      | true =>
      replace hR := Kp.mk hR
      conv => arg 3; whnf
      repeat' first
       | apply z1 | apply z2
       | (apply z50 (id := 11) (ord := [0, 1, 2, 3, 4, 5, 6, 7, 8, 9, 10]) <;> first | kernel_rfl | skip)
       | apply z52
       | (apply chkK_intro; (repeat ((first | (apply zc1; rfl) | (apply zc2; rfl) | (apply zc3; rfl; exact fun _ _ _ _ => rfl)); rfl; rfl; (first | rfl | (simp only [seval, push_cast, *] <;> fail)))); exact chk_nil)
       | ((first | (apply z54; rfl) | (apply z55; rfl) | ((first | (apply z56; rfl) | (apply z57; rfl)); (simp only [seval, push_cast, *] <;> fail))); (simp only [seval, push_cast, *]; with_reducible rfl); try exact of_decide_eq_true rfl)
       | ((first | (apply z58; rfl) | (apply z59; rfl)); (simp only [seval, push_cast, *] <;> fail); try exact of_decide_eq_true rfl)
       | apply z3 | apply z4 | apply z5 | apply z6 | apply z7 | apply z8 | apply z9 | apply z10 | apply z11 | apply z12 | apply z13 | apply z14 | apply z15 | apply z18 | apply z19 | apply z20 | apply z21 | apply z22 | apply z23 | (apply z16; rfl) | (apply z17; decide)
       | ((first | apply z30 | apply z31 | ((first | apply z32 | apply z33); (simp only [seval, push_cast, *] <;> fail))); (simp only [seval, push_cast, *]; with_reducible rfl); try exact of_decide_eq_true rfl)
       | ((first | apply z34 | apply z35); (simp only [seval, push_cast, *] <;> fail); try exact of_decide_eq_true rfl)
       | ((first | (apply z24; (simp only [seval, push_cast, *]; with_reducible rfl)) | (apply z36; (simp only [seval, push_cast, *]; (fail_if_success (show _ = some true)); (fail_if_success (show _ = some false)); with_reducible rfl)) | (apply z60; rfl; (simp only [seval, push_cast, *]; (fail_if_success (show _ = some true)); (fail_if_success (show _ = some false)); with_reducible rfl))); all_goals (intro hc; (try simp only [Bool.not_eq_true', Bool.not_eq_false'] at hc); (try (exact absurd hc Bool.noConfusion)); (first | have hq := dle_true hc | have hq := dlt_true hc | have hq := dle_false hc | have hq := dlt_false hc | skip); (try (exfalso; simp only [decide_eq_true_eq, decide_eq_false_iff_not] at hc; first | omega | (have := hk.out; omega)))))
       | ((first | apply z40 | apply z41 | (apply z42; (simp only [seval, push_cast, *]; with_reducible rfl))); (simp only [seval, push_cast, *]; with_reducible rfl); all_goals (first | (simp only [seval, push_cast, *] <;> fail) | (simp only [seval, push_cast] <;> fail) | (rw [frz_pure rfl] <;> (simp [*] <;> fail))))
      refine lp_then (lp_any (c := loopAt Tryz.f90 1) rfl (hin _ _ _ (by omega) ⟨rfl, by (first | (simp only [seval, push_cast, *]; done) | (simp only [seval, push_cast, *]; rfl)), by (first | (simp only [seval, push_cast, *]; done) | (simp only [seval, push_cast, *]; rfl)), by (first | (simp only [seval, push_cast, *]; done) | (simp only [seval, push_cast, *]; rfl)), ⟨rfl⟩⟩)) ?_
      clear hin
      rintro ex ρ' H2 ⟨rfl, ⟨rfl, h2⟩ | ⟨rfl, h2, h3, h9⟩⟩ hf
      · have f0 := hf 0 rfl
        have f1 := hf 1 rfl
        have f6 := hf 6 rfl
        simp only [seval, push_cast] at f0 f1 f6
        rw [h0] at f0
        rw [h1] at f1
        rw [h6] at f6
        replace hR := hR.out
        clear hf h0 h1 h6
        cases hW : isNodeL nodes p.node with
        | false =>
          have he : outErrR nodes l i p = 9 := by unfold outErrR; rw [if_neg (by simp [hN]), if_neg (by simp only [h2]; decide), if_pos hW]
          rw [he, if_pos (by decide)] at hR
          replace hR : Kp (((i : Int), (9 : Int)) = R) := ⟨hR⟩
          clear he h2
          repeat' first
           | apply z1 | apply z2
           | (apply z50 (id := 11) (ord := [0, 1, 2, 3, 4, 5, 6, 7, 8, 9, 10]) <;> first | kernel_rfl | skip)
           | apply z52
           | (apply chkK_intro; (repeat ((first | (apply zc1; rfl) | (apply zc2; rfl) | (apply zc3; rfl; exact fun _ _ _ _ => rfl)); rfl; rfl; (first | rfl | (simp only [seval, push_cast, *] <;> fail)))); exact chk_nil)
           | ((first | (apply z54; rfl) | (apply z55; rfl) | ((first | (apply z56; rfl) | (apply z57; rfl)); (simp only [seval, push_cast, *] <;> fail))); (simp only [seval, push_cast, *]; with_reducible rfl); try exact of_decide_eq_true rfl)
           | ((first | (apply z58; rfl) | (apply z59; rfl)); (simp only [seval, push_cast, *] <;> fail); try exact of_decide_eq_true rfl)
           | apply z3 | apply z4 | apply z5 | apply z6 | apply z7 | apply z8 | apply z9 | apply z10 | apply z11 | apply z12 | apply z13 | apply z14 | apply z15 | apply z18 | apply z19 | apply z20 | apply z21 | apply z22 | apply z23 | (apply z16; rfl) | (apply z17; decide)
           | ((first | apply z30 | apply z31 | ((first | apply z32 | apply z33); (simp only [seval, push_cast, *] <;> fail))); (simp only [seval, push_cast, *]; with_reducible rfl); try exact of_decide_eq_true rfl)
           | ((first | apply z34 | apply z35); (simp only [seval, push_cast, *] <;> fail); try exact of_decide_eq_true rfl)
           | ((first | (apply z24; (simp only [seval, push_cast, *]; with_reducible rfl)) | (apply z36; (simp only [seval, push_cast, *]; (fail_if_success (show _ = some true)); (fail_if_success (show _ = some false)); with_reducible rfl)) | (apply z60; rfl; (simp only [seval, push_cast, *]; (fail_if_success (show _ = some true)); (fail_if_success (show _ = some false)); with_reducible rfl))); all_goals (intro hc; (try simp only [Bool.not_eq_true', Bool.not_eq_false'] at hc); (try (exact absurd hc Bool.noConfusion)); (first | have hq := dle_true hc | have hq := dlt_true hc | have hq := dle_false hc | have hq := dlt_false hc | skip); (try (exfalso; simp only [decide_eq_true_eq, decide_eq_false_iff_not] at hc; first | omega | (have := hk.out; omega)))))
           | ((first | apply z40 | apply z41 | (apply z42; (simp only [seval, push_cast, *]; with_reducible rfl))); (simp only [seval, push_cast, *]; with_reducible rfl); all_goals (first | (simp only [seval, push_cast, *] <;> fail) | (simp only [seval, push_cast] <;> fail) | (rw [frz_pure rfl] <;> (simp [*] <;> fail))))
          exact ⟨rfl, .inr ⟨rfl, by rw [← hR.out]; (first | (simp only [seval, push_cast, *]; done) | (simp only [seval, push_cast, *]; rfl)), by rw [← hR.out]; (first | (simp only [seval, push_cast, *]; done) | (simp only [seval, push_cast, *]; rfl))⟩⟩
        | true =>
          have he : outErrR nodes l i p = 0 := by unfold outErrR; rw [if_neg (by simp [hN]), if_neg (by simp only [h2]; decide), if_neg (by simp [hW])]
          rw [he, if_neg (by decide)] at hR
          replace hR := Kp.mk hR
          clear he h2
          repeat' first
           | apply z1 | apply z2
           | (apply z50 (id := 11) (ord := [0, 1, 2, 3, 4, 5, 6, 7, 8, 9, 10]) <;> first | kernel_rfl | skip)
           | apply z52
           | (apply chkK_intro; (repeat ((first | (apply zc1; rfl) | (apply zc2; rfl) | (apply zc3; rfl; exact fun _ _ _ _ => rfl)); rfl; rfl; (first | rfl | (simp only [seval, push_cast, *] <;> fail)))); exact chk_nil)
           | ((first | (apply z54; rfl) | (apply z55; rfl) | ((first | (apply z56; rfl) | (apply z57; rfl)); (simp only [seval, push_cast, *] <;> fail))); (simp only [seval, push_cast, *]; with_reducible rfl); try exact of_decide_eq_true rfl)
           | ((first | (apply z58; rfl) | (apply z59; rfl)); (simp only [seval, push_cast, *] <;> fail); try exact of_decide_eq_true rfl)
           | apply z3 | apply z4 | apply z5 | apply z6 | apply z7 | apply z8 | apply z9 | apply z10 | apply z11 | apply z12 | apply z13 | apply z14 | apply z15 | apply z18 | apply z19 | apply z20 | apply z21 | apply z22 | apply z23 | (apply z16; rfl) | (apply z17; decide)
           | ((first | apply z30 | apply z31 | ((first | apply z32 | apply z33); (simp only [seval, push_cast, *] <;> fail))); (simp only [seval, push_cast, *]; with_reducible rfl); try exact of_decide_eq_true rfl)
           | ((first | apply z34 | apply z35); (simp only [seval, push_cast, *] <;> fail); try exact of_decide_eq_true rfl)
           | ((first | (apply z24; (simp only [seval, push_cast, *]; with_reducible rfl)) | (apply z36; (simp only [seval, push_cast, *]; (fail_if_success (show _ = some true)); (fail_if_success (show _ = some false)); with_reducible rfl)) | (apply z60; rfl; (simp only [seval, push_cast, *]; (fail_if_success (show _ = some true)); (fail_if_success (show _ = some false)); with_reducible rfl))); all_goals (intro hc; (try simp only [Bool.not_eq_true', Bool.not_eq_false'] at hc); (try (exact absurd hc Bool.noConfusion)); (first | have hq := dle_true hc | have hq := dlt_true hc | have hq := dle_false hc | have hq := dlt_false hc | skip); (try (exfalso; simp only [decide_eq_true_eq, decide_eq_false_iff_not] at hc; first | omega | (have := hk.out; omega)))))
           | ((first | apply z40 | apply z41 | (apply z42; (simp only [seval, push_cast, *]; with_reducible rfl))); (simp only [seval, push_cast, *]; with_reducible rfl); all_goals (first | (simp only [seval, push_cast, *] <;> fail) | (simp only [seval, push_cast] <;> fail) | (rw [frz_pure rfl] <;> (simp [*] <;> fail))))
          exact ⟨rfl, by (first | (simp only [seval, push_cast, *]; done) | (simp only [seval, push_cast, *]; rfl)), by (first | (simp only [seval, push_cast, *]; done) | (simp only [seval, push_cast, *]; rfl)), by (first | (simp only [seval, push_cast, *]; done) | (simp only [seval, push_cast, *]; rfl)), hR⟩
      · replace hR := hR.out
        have he : outErrR nodes l i p = 5 := by unfold outErrR; rw [if_neg (by simp [hN]), if_pos h9]
        rw [he, if_pos (by decide)] at hR
        replace hR : Kp (((i : Int), (5 : Int)) = R) := ⟨hR⟩
        clear he h9
        repeat' first
         | apply z1 | apply z2
         | (apply z50 (id := 11) (ord := [0, 1, 2, 3, 4, 5, 6, 7, 8, 9, 10]) <;> first | kernel_rfl | skip)
         | apply z52
         | (apply chkK_intro; (repeat ((first | (apply zc1; rfl) | (apply zc2; rfl) | (apply zc3; rfl; exact fun _ _ _ _ => rfl)); rfl; rfl; (first | rfl | (simp only [seval, push_cast, *] <;> fail)))); exact chk_nil)
         | ((first | (apply z54; rfl) | (apply z55; rfl) | ((first | (apply z56; rfl) | (apply z57; rfl)); (simp only [seval, push_cast, *] <;> fail))); (simp only [seval, push_cast, *]; with_reducible rfl); try exact of_decide_eq_true rfl)
         | ((first | (apply z58; rfl) | (apply z59; rfl)); (simp only [seval, push_cast, *] <;> fail); try exact of_decide_eq_true rfl)
         | apply z3 | apply z4 | apply z5 | apply z6 | apply z7 | apply z8 | apply z9 | apply z10 | apply z11 | apply z12 | apply z13 | apply z14 | apply z15 | apply z18 | apply z19 | apply z20 | apply z21 | apply z22 | apply z23 | (apply z16; rfl) | (apply z17; decide)
         | ((first | apply z30 | apply z31 | ((first | apply z32 | apply z33); (simp only [seval, push_cast, *] <;> fail))); (simp only [seval, push_cast, *]; with_reducible rfl); try exact of_decide_eq_true rfl)
         | ((first | apply z34 | apply z35); (simp only [seval, push_cast, *] <;> fail); try exact of_decide_eq_true rfl)
         | ((first | (apply z24; (simp only [seval, push_cast, *]; with_reducible rfl)) | (apply z36; (simp only [seval, push_cast, *]; (fail_if_success (show _ = some true)); (fail_if_success (show _ = some false)); with_reducible rfl)) | (apply z60; rfl; (simp only [seval, push_cast, *]; (fail_if_success (show _ = some true)); (fail_if_success (show _ = some false)); with_reducible rfl))); all_goals (intro hc; (try simp only [Bool.not_eq_true', Bool.not_eq_false'] at hc); (try (exact absurd hc Bool.noConfusion)); (first | have hq := dle_true hc | have hq := dlt_true hc | have hq := dle_false hc | have hq := dlt_false hc | skip); (try (exfalso; simp only [decide_eq_true_eq, decide_eq_false_iff_not] at hc; first | omega | (have := hk.out; omega)))))
         | ((first | apply z40 | apply z41 | (apply z42; (simp only [seval, push_cast, *]; with_reducible rfl))); (simp only [seval, push_cast, *]; with_reducible rfl); all_goals (first | (simp only [seval, push_cast, *] <;> fail) | (simp only [seval, push_cast] <;> fail) | (rw [frz_pure rfl] <;> (simp [*] <;> fail))))
        exact ⟨rfl, .inr ⟨rfl, by rw [← hR.out]; (first | (simp only [seval, push_cast, *]; done) | (simp only [seval, push_cast, *]; rfl)), by rw [← hR.out]; (first | (simp only [seval, push_cast, *]; done) | (simp only [seval, push_cast, *]; rfl))⟩⟩
    · rintro ρ H' ⟨rfl, h0, h1, h6, hR⟩
      replace hR := hR.out
      rw [List.drop_length, eachP] at hR
      replace hR : Kp ((0, 0) = R) := ⟨hR⟩
      clear hs
      conv => arg 3; whnf
      repeat' first
       | apply z1 | apply z2
       | (apply z50 (id := 11) (ord := [0, 1, 2, 3, 4, 5, 6, 7, 8, 9, 10]) <;> first | kernel_rfl | skip)
       | apply z52
       | (apply chkK_intro; (repeat ((first | (apply zc1; rfl) | (apply zc2; rfl) | (apply zc3; rfl; exact fun _ _ _ _ => rfl)); rfl; rfl; (first | rfl | (simp only [seval, push_cast, *] <;> fail)))); exact chk_nil)
       | ((first | (apply z54; rfl) | (apply z55; rfl) | ((first | (apply z56; rfl) | (apply z57; rfl)); (simp only [seval, push_cast, *] <;> fail))); (simp only [seval, push_cast, *]; with_reducible rfl); try exact of_decide_eq_true rfl)
       | ((first | (apply z58; rfl) | (apply z59; rfl)); (simp only [seval, push_cast, *] <;> fail); try exact of_decide_eq_true rfl)
       | apply z3 | apply z4 | apply z5 | apply z6 | apply z7 | apply z8 | apply z9 | apply z10 | apply z11 | apply z12 | apply z13 | apply z14 | apply z15 | apply z18 | apply z19 | apply z20 | apply z21 | apply z22 | apply z23 | (apply z16; rfl) | (apply z17; decide)
       | ((first | apply z30 | apply z31 | ((first | apply z32 | apply z33); (simp only [seval, push_cast, *] <;> fail))); (simp only [seval, push_cast, *]; with_reducible rfl); try exact of_decide_eq_true rfl)
       | ((first | apply z34 | apply z35); (simp only [seval, push_cast, *] <;> fail); try exact of_decide_eq_true rfl)
       | ((first | (apply z24; (simp only [seval, push_cast, *]; with_reducible rfl)) | (apply z36; (simp only [seval, push_cast, *]; (fail_if_success (show _ = some true)); (fail_if_success (show _ = some false)); with_reducible rfl)) | (apply z60; rfl; (simp only [seval, push_cast, *]; (fail_if_success (show _ = some true)); (fail_if_success (show _ = some false)); with_reducible rfl))); all_goals (intro hc; (try simp only [Bool.not_eq_true', Bool.not_eq_false'] at hc); (try (exact absurd hc Bool.noConfusion)); (first | have hq := dle_true hc | have hq := dlt_true hc | have hq := dle_false hc | have hq := dlt_false hc | skip); (try (exfalso; simp only [decide_eq_true_eq, decide_eq_false_iff_not] at hc; first | omega | (have := hk.out; omega)))))
       | ((first | apply z40 | apply z41 | (apply z42; (simp only [seval, push_cast, *]; with_reducible rfl))); (simp only [seval, push_cast, *]; with_reducible rfl); all_goals (first | (simp only [seval, push_cast, *] <;> fail) | (simp only [seval, push_cast] <;> fail) | (rw [frz_pure rfl] <;> (simp [*] <;> fail))))
      exact ⟨rfl, .inl ⟨rfl, hR.out.symm⟩⟩
  clear hs
  unfold outsErrR
  by_cases h : 12 < l.length
  · rw [if_pos h]
    have d : (12 : Int) < l.length := by omega
    clear key
    repeat' first
     | apply z1 | apply z2
     | (apply z50 (id := 11) (ord := [0, 1, 2, 3, 4, 5, 6, 7, 8, 9, 10]) <;> first | kernel_rfl | skip)
     | apply z52
     | (apply chkK_intro; (repeat ((first | (apply zc1; rfl) | (apply zc2; rfl) | (apply zc3; rfl; exact fun _ _ _ _ => rfl)); rfl; rfl; (first | rfl | (simp only [seval, push_cast, *] <;> fail)))); exact chk_nil)
     | ((first | (apply z54; rfl) | (apply z55; rfl) | ((first | (apply z56; rfl) | (apply z57; rfl)); (simp only [seval, push_cast, *] <;> fail))); (simp only [seval, push_cast, *]; with_reducible rfl); try exact of_decide_eq_true rfl)
     | ((first | (apply z58; rfl) | (apply z59; rfl)); (simp only [seval, push_cast, *] <;> fail); try exact of_decide_eq_true rfl)
     | apply z3 | apply z4 | apply z5 | apply z6 | apply z7 | apply z8 | apply z9 | apply z10 | apply z11 | apply z12 | apply z13 | apply z14 | apply z15 | apply z18 | apply z19 | apply z20 | apply z21 | apply z22 | apply z23 | (apply z16; rfl) | (apply z17; decide)
     | ((first | apply z30 | apply z31 | ((first | apply z32 | apply z33); (simp only [seval, push_cast, *] <;> fail))); (simp only [seval, push_cast, *]; with_reducible rfl); try exact of_decide_eq_true rfl)
     | ((first | apply z34 | apply z35); (simp only [seval, push_cast, *] <;> fail); try exact of_decide_eq_true rfl)
     | ((first | (apply z24; (simp only [seval, push_cast, *]; with_reducible rfl)) | (apply z36; (simp only [seval, push_cast, *]; (fail_if_success (show _ = some true)); (fail_if_success (show _ = some false)); with_reducible rfl)) | (apply z60; rfl; (simp only [seval, push_cast, *]; (fail_if_success (show _ = some true)); (fail_if_success (show _ = some false)); with_reducible rfl))); all_goals (intro hc; (try simp only [Bool.not_eq_true', Bool.not_eq_false'] at hc); (try (exact absurd hc Bool.noConfusion)); (first | have hq := dle_true hc | have hq := dlt_true hc | have hq := dle_false hc | have hq := dlt_false hc | skip); (try (exfalso; simp only [decide_eq_true_eq, decide_eq_false_iff_not] at hc; first | omega | (have := hk.out; omega)))))
     | ((first | apply z40 | apply z41 | (apply z42; (simp only [seval, push_cast, *]; with_reducible rfl))); (simp only [seval, push_cast, *]; with_reducible rfl); all_goals (first | (simp only [seval, push_cast, *] <;> fail) | (simp only [seval, push_cast] <;> fail) | (rw [frz_pure rfl] <;> (simp [*] <;> fail))))
  rw [if_neg h]
  have d : decide ((12 : Int) < l.length) = false := decide_eq_false (by omega)
  repeat' first
   | apply z1 | apply z2
   | (apply z50 (id := 11) (ord := [0, 1, 2, 3, 4, 5, 6, 7, 8, 9, 10]) <;> first | kernel_rfl | skip)
   | apply z52
   | (apply chkK_intro; (repeat ((first | (apply zc1; rfl) | (apply zc2; rfl) | (apply zc3; rfl; exact fun _ _ _ _ => rfl)); rfl; rfl; (first | rfl | (simp only [seval, push_cast, *] <;> fail)))); exact chk_nil)
   | ((first | (apply z54; rfl) | (apply z55; rfl) | ((first | (apply z56; rfl) | (apply z57; rfl)); (simp only [seval, push_cast, *] <;> fail))); (simp only [seval, push_cast, *]; with_reducible rfl); try exact of_decide_eq_true rfl)
   | ((first | (apply z58; rfl) | (apply z59; rfl)); (simp only [seval, push_cast, *] <;> fail); try exact of_decide_eq_true rfl)
   | apply z3 | apply z4 | apply z5 | apply z6 | apply z7 | apply z8 | apply z9 | apply z10 | apply z11 | apply z12 | apply z13 | apply z14 | apply z15 | apply z18 | apply z19 | apply z20 | apply z21 | apply z22 | apply z23 | (apply z16; rfl) | (apply z17; decide)
   | ((first | apply z30 | apply z31 | ((first | apply z32 | apply z33); (simp only [seval, push_cast, *] <;> fail))); (simp only [seval, push_cast, *]; with_reducible rfl); try exact of_decide_eq_true rfl)
   | ((first | apply z34 | apply z35); (simp only [seval, push_cast, *] <;> fail); try exact of_decide_eq_true rfl)
   | ((first | (apply z24; (simp only [seval, push_cast, *]; with_reducible rfl)) | (apply z36; (simp only [seval, push_cast, *]; (fail_if_success (show _ = some true)); (fail_if_success (show _ = some false)); with_reducible rfl)) | (apply z60; rfl; (simp only [seval, push_cast, *]; (fail_if_success (show _ = some true)); (fail_if_success (show _ = some false)); with_reducible rfl))); all_goals (intro hc; (try simp only [Bool.not_eq_true', Bool.not_eq_false'] at hc); (try (exact absurd hc Bool.noConfusion)); (first | have hq := dle_true hc | have hq := dlt_true hc | have hq := dle_false hc | have hq := dlt_false hc | skip); (try (exfalso; simp only [decide_eq_true_eq, decide_eq_false_iff_not] at hc; first | omega | (have := hk.out; omega)))))
   | ((first | apply z40 | apply z41 | (apply z42; (simp only [seval, push_cast, *]; with_reducible rfl))); (simp only [seval, push_cast, *]; with_reducible rfl); all_goals (first | (simp only [seval, push_cast, *] <;> fail) | (simp only [seval, push_cast] <;> fail) | (rw [frz_pure rfl] <;> (simp [*] <;> fail))))
  refine lp_then (lp_any (c := loopAt Tryz.f90 0) rfl (key (eachP (outErrR nodes l) 0 l) _ 0 _ _ (by omega) ⟨rfl, by (first | (simp only [seval, push_cast, *]; done) | (simp only [seval, push_cast, *]; rfl)), by (first | (simp only [seval, push_cast, *]; done) | (simp only [seval, push_cast, *]; rfl)), by (first | (simp only [seval, push_cast, *]; done) | (simp only [seval, push_cast, *]; rfl)), ⟨rfl⟩⟩)) ?_
  clear key
  rintro ex ρ' H' ⟨rfl, ⟨rfl, h2⟩ | ⟨rfl, h2, h3⟩⟩ -
  · rw [h2]
    repeat' first
     | apply z1 | apply z2
     | (apply z50 (id := 11) (ord := [0, 1, 2, 3, 4, 5, 6, 7, 8, 9, 10]) <;> first | kernel_rfl | skip)
     | apply z52
     | (apply chkK_intro; (repeat ((first | (apply zc1; rfl) | (apply zc2; rfl) | (apply zc3; rfl; exact fun _ _ _ _ => rfl)); rfl; rfl; (first | rfl | (simp only [seval, push_cast, *] <;> fail)))); exact chk_nil)
     | ((first | (apply z54; rfl) | (apply z55; rfl) | ((first | (apply z56; rfl) | (apply z57; rfl)); (simp only [seval, push_cast, *] <;> fail))); (simp only [seval, push_cast, *]; with_reducible rfl); try exact of_decide_eq_true rfl)
     | ((first | (apply z58; rfl) | (apply z59; rfl)); (simp only [seval, push_cast, *] <;> fail); try exact of_decide_eq_true rfl)
     | apply z3 | apply z4 | apply z5 | apply z6 | apply z7 | apply z8 | apply z9 | apply z10 | apply z11 | apply z12 | apply z13 | apply z14 | apply z15 | apply z18 | apply z19 | apply z20 | apply z21 | apply z22 | apply z23 | (apply z16; rfl) | (apply z17; decide)
     | ((first | apply z30 | apply z31 | ((first | apply z32 | apply z33); (simp only [seval, push_cast, *] <;> fail))); (simp only [seval, push_cast, *]; with_reducible rfl); try exact of_decide_eq_true rfl)
     | ((first | apply z34 | apply z35); (simp only [seval, push_cast, *] <;> fail); try exact of_decide_eq_true rfl)
     | ((first | (apply z24; (simp only [seval, push_cast, *]; with_reducible rfl)) | (apply z36; (simp only [seval, push_cast, *]; (fail_if_success (show _ = some true)); (fail_if_success (show _ = some false)); with_reducible rfl)) | (apply z60; rfl; (simp only [seval, push_cast, *]; (fail_if_success (show _ = some true)); (fail_if_success (show _ = some false)); with_reducible rfl))); all_goals (intro hc; (try simp only [Bool.not_eq_true', Bool.not_eq_false'] at hc); (try (exact absurd hc Bool.noConfusion)); (first | have hq := dle_true hc | have hq := dlt_true hc | have hq := dle_false hc | have hq := dlt_false hc | skip); (try (exfalso; simp only [decide_eq_true_eq, decide_eq_false_iff_not] at hc; first | omega | (have := hk.out; omega)))))
     | ((first | apply z40 | apply z41 | (apply z42; (simp only [seval, push_cast, *]; with_reducible rfl))); (simp only [seval, push_cast, *]; with_reducible rfl); all_goals (first | (simp only [seval, push_cast, *] <;> fail) | (simp only [seval, push_cast] <;> fail) | (rw [frz_pure rfl] <;> (simp [*] <;> fail))))
  · repeat' first
     | apply z1 | apply z2
     | (apply z50 (id := 11) (ord := [0, 1, 2, 3, 4, 5, 6, 7, 8, 9, 10]) <;> first | kernel_rfl | skip)
     | apply z52
     | (apply chkK_intro; (repeat ((first | (apply zc1; rfl) | (apply zc2; rfl) | (apply zc3; rfl; exact fun _ _ _ _ => rfl)); rfl; rfl; (first | rfl | (simp only [seval, push_cast, *] <;> fail)))); exact chk_nil)
     | ((first | (apply z54; rfl) | (apply z55; rfl) | ((first | (apply z56; rfl) | (apply z57; rfl)); (simp only [seval, push_cast, *] <;> fail))); (simp only [seval, push_cast, *]; with_reducible rfl); try exact of_decide_eq_true rfl)
     | ((first | (apply z58; rfl) | (apply z59; rfl)); (simp only [seval, push_cast, *] <;> fail); try exact of_decide_eq_true rfl)
     | apply z3 | apply z4 | apply z5 | apply z6 | apply z7 | apply z8 | apply z9 | apply z10 | apply z11 | apply z12 | apply z13 | apply z14 | apply z15 | apply z18 | apply z19 | apply z20 | apply z21 | apply z22 | apply z23 | (apply z16; rfl) | (apply z17; decide)
     | ((first | apply z30 | apply z31 | ((first | apply z32 | apply z33); (simp only [seval, push_cast, *] <;> fail))); (simp only [seval, push_cast, *]; with_reducible rfl); try exact of_decide_eq_true rfl)
     | ((first | apply z34 | apply z35); (simp only [seval, push_cast, *] <;> fail); try exact of_decide_eq_true rfl)
     | ((first | (apply z24; (simp only [seval, push_cast, *]; with_reducible rfl)) | (apply z36; (simp only [seval, push_cast, *]; (fail_if_success (show _ = some true)); (fail_if_success (show _ = some false)); with_reducible rfl)) | (apply z60; rfl; (simp only [seval, push_cast, *]; (fail_if_success (show _ = some true)); (fail_if_success (show _ = some false)); with_reducible rfl))); all_goals (intro hc; (try simp only [Bool.not_eq_true', Bool.not_eq_false'] at hc); (try (exact absurd hc Bool.noConfusion)); (first | have hq := dle_true hc | have hq := dlt_true hc | have hq := dle_false hc | have hq := dlt_false hc | skip); (try (exfalso; simp only [decide_eq_true_eq, decide_eq_false_iff_not] at hc; first | omega | (have := hk.out; omega)))))
     | ((first | apply z40 | apply z41 | (apply z42; (simp only [seval, push_cast, *]; with_reducible rfl))); (simp only [seval, push_cast, *]; with_reducible rfl); all_goals (first | (simp only [seval, push_cast, *] <;> fail) | (simp only [seval, push_cast] <;> fail) | (rw [frz_pure rfl] <;> (simp [*] <;> fail))))

end Go.E
