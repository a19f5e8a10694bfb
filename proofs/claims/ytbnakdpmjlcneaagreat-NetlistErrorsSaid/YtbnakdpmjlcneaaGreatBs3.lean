/- Contracts of the references' base, in E: errors of nodes. Own work. -/
import Derived.Test.YtbnakdpmjlcneaaGreatBs1
set_option linter.all false
namespace Go.E
open Go.Proofs
set_option maxRecDepth 100000
set_option maxHeartbeats 4000000

def oddP (i : Nat) (n : Int) : Bool := !(decide (0 ≤ n) && decide (n ≤ (i : Int) - 1))
theorem bs_odd (bs : List Nat) (H : Heap) (x : Node) (i : Nat) (hl : x.args.length ≤ 1000000) (hi : i ≤ 1000000) (R : Bool) :
    ∀ j ρ H', j ≤ x.args.length → (H' = H ++ [.cells [.int .i64 x.op, .int .i64 x.width, .list (x.args.map (.int .i64)), .int .i64 x.value]] ∧ ρ 2 = .int .i64 i ∧ ρ 7 = .ptr H.length 0 ∧ ρ 8 = .int .i64 j ∧ Kp ((x.args.drop j).any (oddP i) = R)) →
      Lp X ⟨84, bs⟩ (loopAt Tryz.f146 0) ρ H' fun ex ρ' H' => H' = H ++ [.cells [.int .i64 x.op, .int .i64 x.width, .list (x.args.map (.int .i64)), .int .i64 x.value]] ∧ ((ex = .exit 0 ∧ R = false) ∨ (ex = .ret ∧ ρ' 6 = .int .i64 9 ∧ R = true)) := by
  have hi1 := sub1 i hi
  refine loop_up ?_ ?_
  · rintro j ρ H' hj ⟨rfl, h2, h7, h8, hR⟩
    have hget : x.args[j]? = some x.args[j] := by simp [hj]
    generalize x.args[j] = n at hget
    have hw := add1 j x.args.length hj hl
    replace hR := hR.out
    rw [drop_cons hget, List.any_cons] at hR
    replace hR : Kp ((oddP i n || (x.args.drop (j + 1)).any (oddP i)) = R) := ⟨hR⟩
    conv => arg 3; whnf
    repeat' first
     | apply z1 | apply z2
     | (apply z51 (id := 6) (ord := [0, 1, 2, 3, 4, 5, 6]) (ps := [(1, 5)]) <;> first | kernel_rfl | skip)
     | (apply z50 (id := 23) (ord := [0, 1, 2, 3, 4, 5, 6, 7]) <;> first | kernel_rfl | skip)
     | apply z52
     | (apply chkK_intro; (repeat ((first | (apply zc1; rfl) | (apply zc2; rfl) | (apply zc3; rfl; exact fun _ _ _ _ => rfl)); rfl; rfl; (first | rfl | (simp only [seval, push_cast, *] <;> fail)))); exact chk_nil)
     | ((first | (apply z54; rfl) | (apply z55; rfl) | ((first | (apply z56; rfl) | (apply z57; rfl)); (simp only [seval, push_cast, *] <;> fail))); (simp only [seval, push_cast, *]; with_reducible rfl); try exact of_decide_eq_true rfl)
     | ((first | (apply z58; rfl) | (apply z59; rfl)); (simp only [seval, push_cast, *] <;> fail); try exact of_decide_eq_true rfl)
     | apply z3 | apply z4 | apply z5 | apply z6 | apply z7 | apply z8 | apply z9 | apply z10 | apply z11 | apply z12 | apply z13 | apply z14 | apply z15 | apply z18 | apply z19 | apply z20 | apply z21 | apply z22 | apply z23 | (apply z16; rfl) | (apply z17; decide)
     | ((first | apply z30 | apply z31 | ((first | apply z32 | apply z33); (simp only [seval, push_cast, *] <;> fail))); (simp only [seval, push_cast, *]; with_reducible rfl); try exact of_decide_eq_true rfl)
     | ((first | apply z34 | apply z35); (simp only [seval, push_cast, *] <;> fail); try exact of_decide_eq_true rfl)
     | ((first | (apply z24; (simp only [seval, push_cast, *]; with_reducible rfl)) | (apply z36; (simp only [seval, push_cast, *]; (fail_if_success (show _ = some true)); (fail_if_success (show _ = some false)); with_reducible rfl)) | (apply z60; rfl; (simp only [seval, push_cast, *]; (fail_if_success (show _ = some true)); (fail_if_success (show _ = some false)); with_reducible rfl))); all_goals (intro hc; (try simp only [Bool.not_eq_true', Bool.not_eq_false'] at hc); (try (exact absurd hc Bool.noConfusion)); (first | have hq := dle_true hc | have hq := dlt_true hc | have hq := dle_false hc | have hq := dlt_false hc | skip); (try (exfalso; simp only [decide_eq_true_eq, decide_eq_false_iff_not] at hc; first | omega | (have := hk.out; omega)))))
     | ((first | apply z40 | apply z41 | (apply z42; (simp only [seval, push_cast, *]; with_reducible rfl))); (simp only [seval, push_cast, *]; with_reducible rfl); all_goals (first | (simp only [seval, push_cast, *] <;> fail) | (simp only [seval, push_cast] <;> fail) | (rw [frz_pure rfl] <;> (simp [*] <;> fail))))
    all_goals replace hR := hR.out
    all_goals unfold oddP at hR
    · rw [hc] at hR
      exact ⟨rfl, .inr ⟨rfl, by (first | (simp only [seval, push_cast, *]; done) | (simp only [seval, push_cast, *]; rfl)), by rw [← hR]; rfl⟩⟩
    · rw [hc] at hR
      exact ⟨rfl, by (first | (simp only [seval, push_cast, *]; done) | (simp only [seval, push_cast, *]; rfl)), by (first | (simp only [seval, push_cast, *]; done) | (simp only [seval, push_cast, *]; rfl)), by (first | (simp only [seval, push_cast, *]; done) | (simp only [seval, push_cast, *]; rfl)), ⟨by rw [← hR]; rfl⟩⟩
  · rintro ρ H' ⟨rfl, h2, h7, h8, hR⟩
    replace hR := hR.out
    rw [List.drop_length, List.any_nil] at hR
    replace hR : Kp (false = R) := ⟨hR⟩
    conv => arg 3; whnf
    repeat' first
     | apply z1 | apply z2
     | (apply z51 (id := 6) (ord := [0, 1, 2, 3, 4, 5, 6]) (ps := [(1, 5)]) <;> first | kernel_rfl | skip)
     | (apply z50 (id := 23) (ord := [0, 1, 2, 3, 4, 5, 6, 7]) <;> first | kernel_rfl | skip)
     | apply z52
     | (apply chkK_intro; (repeat ((first | (apply zc1; rfl) | (apply zc2; rfl) | (apply zc3; rfl; exact fun _ _ _ _ => rfl)); rfl; rfl; (first | rfl | (simp only [seval, push_cast, *] <;> fail)))); exact chk_nil)
     | ((first | (apply z54; rfl) | (apply z55; rfl) | ((first | (apply z56; rfl) | (apply z57; rfl)); (simp only [seval, push_cast, *] <;> fail))); (simp only [seval, push_cast, *]; with_reducible rfl); try exact of_decide_eq_true rfl)
     | ((first | (apply z58; rfl) | (apply z59; rfl)); (simp only [seval, push_cast, *] <;> fail); try exact of_decide_eq_true rfl)
     | apply z3 | apply z4 | apply z5 | apply z6 | apply z7 | apply z8 | apply z9 | apply z10 | apply z11 | apply z12 | apply z13 | apply z14 | apply z15 | apply z18 | apply z19 | apply z20 | apply z21 | apply z22 | apply z23 | (apply z16; rfl) | (apply z17; decide)
     | ((first | apply z30 | apply z31 | ((first | apply z32 | apply z33); (simp only [seval, push_cast, *] <;> fail))); (simp only [seval, push_cast, *]; with_reducible rfl); try exact of_decide_eq_true rfl)
     | ((first | apply z34 | apply z35); (simp only [seval, push_cast, *] <;> fail); try exact of_decide_eq_true rfl)
     | ((first | (apply z24; (simp only [seval, push_cast, *]; with_reducible rfl)) | (apply z36; (simp only [seval, push_cast, *]; (fail_if_success (show _ = some true)); (fail_if_success (show _ = some false)); with_reducible rfl)) | (apply z60; rfl; (simp only [seval, push_cast, *]; (fail_if_success (show _ = some true)); (fail_if_success (show _ = some false)); with_reducible rfl))); all_goals (intro hc; (try simp only [Bool.not_eq_true', Bool.not_eq_false'] at hc); (try (exact absurd hc Bool.noConfusion)); (first | have hq := dle_true hc | have hq := dlt_true hc | have hq := dle_false hc | have hq := dlt_false hc | skip); (try (exfalso; simp only [decide_eq_true_eq, decide_eq_false_iff_not] at hc; first | omega | (have := hk.out; omega)))))
     | ((first | apply z40 | apply z41 | (apply z42; (simp only [seval, push_cast, *]; with_reducible rfl))); (simp only [seval, push_cast, *]; with_reducible rfl); all_goals (first | (simp only [seval, push_cast, *] <;> fail) | (simp only [seval, push_cast] <;> fail) | (rw [frz_pure rfl] <;> (simp [*] <;> fail))))
    exact ⟨rfl, .inl ⟨rfl, hR.out.symm⟩⟩

theorem bs_nodeErr (bs : List Nat) (H : Heap) (leaves : List Int) (nodes : List Node) (i : Nat) (x : Node) (hx : nodes[i]? = some x) (hl : leaves.length ≤ 1000000) (hn : nodes.length ≤ 1000000) (hal : x.args.length ≤ 1000000) : callw X bs 146 [.list (leaves.map (.int .i64)), .list (nodes.map encNode), .int .i64 i] H = some (.int .i64 (nodeErrS leaves nodes i x), H) := by
  refine call_at (rs := [.tmp 6]) (N := 84) (fn := Tryz.f146) xk146 xf146 rfl rfl rfl (by simp only [seval, push_cast, List.map_cons, List.map_nil, V.norm, norm1]; rfl) ?_
  have hi : i < nodes.length := (List.getElem?_eq_some_iff.1 hx).1
  unfold nodeErrS
  by_cases hop : 0 ≤ x.op ∧ x.op ≤ 18
  case neg =>
    have hb : (decide (0 ≤ x.op) && decide (x.op ≤ 18)) = false := by rw [Bool.and_eq_false_iff, decide_eq_false_iff_not, decide_eq_false_iff_not]; omega
    rw [if_pos hop]
    clear hop
    repeat' first
     | apply z1 | apply z2
     | (apply z51 (id := 6) (ord := [0, 1, 2, 3, 4, 5, 6]) (ps := [(1, 5)]) <;> first | kernel_rfl | skip)
     | (apply z50 (id := 23) (ord := [0, 1, 2, 3, 4, 5, 6, 7]) <;> first | kernel_rfl | skip)
     | apply z52
     | (apply chkK_intro; (repeat ((first | (apply zc1; rfl) | (apply zc2; rfl) | (apply zc3; rfl; exact fun _ _ _ _ => rfl)); rfl; rfl; (first | rfl | (simp only [seval, push_cast, *] <;> fail)))); exact chk_nil)
     | ((first | (apply z54; rfl) | (apply z55; rfl) | ((first | (apply z56; rfl) | (apply z57; rfl)); (simp only [seval, push_cast, *] <;> fail))); (simp only [seval, push_cast, *]; with_reducible rfl); try exact of_decide_eq_true rfl)
     | ((first | (apply z58; rfl) | (apply z59; rfl)); (simp only [seval, push_cast, *] <;> fail); try exact of_decide_eq_true rfl)
     | apply z3 | apply z4 | apply z5 | apply z6 | apply z7 | apply z8 | apply z9 | apply z10 | apply z11 | apply z12 | apply z13 | apply z14 | apply z15 | apply z18 | apply z19 | apply z20 | apply z21 | apply z22 | apply z23 | (apply z16; rfl) | (apply z17; decide)
     | ((first | apply z30 | apply z31 | ((first | apply z32 | apply z33); (simp only [seval, push_cast, *] <;> fail))); (simp only [seval, push_cast, *]; with_reducible rfl); try exact of_decide_eq_true rfl)
     | ((first | apply z34 | apply z35); (simp only [seval, push_cast, *] <;> fail); try exact of_decide_eq_true rfl)
     | ((first | (apply z24; (simp only [seval, push_cast, *]; with_reducible rfl)) | (apply z36; (simp only [seval, push_cast, *]; (fail_if_success (show _ = some true)); (fail_if_success (show _ = some false)); with_reducible rfl)) | (apply z60; rfl; (simp only [seval, push_cast, *]; (fail_if_success (show _ = some true)); (fail_if_success (show _ = some false)); with_reducible rfl))); all_goals (intro hc; (try simp only [Bool.not_eq_true', Bool.not_eq_false'] at hc); (try (exact absurd hc Bool.noConfusion)); (first | have hq := dle_true hc | have hq := dlt_true hc | have hq := dle_false hc | have hq := dlt_false hc | skip); (try (exfalso; simp only [decide_eq_true_eq, decide_eq_false_iff_not] at hc; first | omega | (have := hk.out; omega)))))
     | ((first | apply z40 | apply z41 | (apply z42; (simp only [seval, push_cast, *]; with_reducible rfl))); (simp only [seval, push_cast, *]; with_reducible rfl); all_goals (first | (simp only [seval, push_cast, *] <;> fail) | (simp only [seval, push_cast] <;> fail) | (rw [frz_pure rfl] <;> (simp [*] <;> fail))))
  rw [if_neg (by simpa using hop)]
  obtain ⟨k, hk⟩ : ∃ k : Nat, x.op = k := ⟨x.op.toNat, by omega⟩
  have hk19 : k < 19 := by omega
  have hk18 : (k : Int) ≤ 18 := by omega
  rw [hk, Int.toNat_natCast]
  have hac := fun bs H => bs_argCount0 bs H k x.op hk19 hk
  rw [hk] at hac
  cases hw : isW x.width with
  | false =>
    rw [if_pos rfl]
    unfold isW at hw
    clear hop
    repeat' first
     | apply z1 | apply z2
     | (apply z51 (id := 6) (ord := [0, 1, 2, 3, 4, 5, 6]) (ps := [(1, 5)]) <;> first | kernel_rfl | skip)
     | (apply z50 (id := 23) (ord := [0, 1, 2, 3, 4, 5, 6, 7]) <;> first | kernel_rfl | skip)
     | apply z52
     | (apply chkK_intro; (repeat ((first | (apply zc1; rfl) | (apply zc2; rfl) | (apply zc3; rfl; exact fun _ _ _ _ => rfl)); rfl; rfl; (first | rfl | (simp only [seval, push_cast, *] <;> fail)))); exact chk_nil)
     | ((first | (apply z54; rfl) | (apply z55; rfl) | ((first | (apply z56; rfl) | (apply z57; rfl)); (simp only [seval, push_cast, *] <;> fail))); (simp only [seval, push_cast, *]; with_reducible rfl); try exact of_decide_eq_true rfl)
     | ((first | (apply z58; rfl) | (apply z59; rfl)); (simp only [seval, push_cast, *] <;> fail); try exact of_decide_eq_true rfl)
     | apply z3 | apply z4 | apply z5 | apply z6 | apply z7 | apply z8 | apply z9 | apply z10 | apply z11 | apply z12 | apply z13 | apply z14 | apply z15 | apply z18 | apply z19 | apply z20 | apply z21 | apply z22 | apply z23 | (apply z16; rfl) | (apply z17; decide)
     | ((first | apply z30 | apply z31 | ((first | apply z32 | apply z33); (simp only [seval, push_cast, *] <;> fail))); (simp only [seval, push_cast, *]; with_reducible rfl); try exact of_decide_eq_true rfl)
     | ((first | apply z34 | apply z35); (simp only [seval, push_cast, *] <;> fail); try exact of_decide_eq_true rfl)
     | ((first | (apply z24; (simp only [seval, push_cast, *]; with_reducible rfl)) | (apply z36; (simp only [seval, push_cast, *]; (fail_if_success (show _ = some true)); (fail_if_success (show _ = some false)); with_reducible rfl)) | (apply z60; rfl; (simp only [seval, push_cast, *]; (fail_if_success (show _ = some true)); (fail_if_success (show _ = some false)); with_reducible rfl))); all_goals (intro hc; (try simp only [Bool.not_eq_true', Bool.not_eq_false'] at hc); (try (exact absurd hc Bool.noConfusion)); (first | have hq := dle_true hc | have hq := dlt_true hc | have hq := dle_false hc | have hq := dlt_false hc | skip); (try (exfalso; simp only [decide_eq_true_eq, decide_eq_false_iff_not] at hc; first | omega | (have := hk.out; omega)))))
     | ((first | apply z40 | apply z41 | (apply z42; (simp only [seval, push_cast, *]; with_reducible rfl))); (simp only [seval, push_cast, *]; with_reducible rfl); all_goals (first | (simp only [seval, push_cast, *] <;> fail) | (simp only [seval, push_cast] <;> fail) | (rw [frz_pure rfl] <;> (simp [*] <;> fail))))
  | true =>
  rw [if_neg (by simp)]
  have hw0 : 0 ≤ x.width := by simp only [isW, Bool.and_eq_true, decide_eq_true_eq] at hw; omega
  unfold isW at hw
  by_cases hlen : x.args.length = argC k
  case neg =>
    have dl : ¬ ((x.args.length : Int) = ((argC k : Nat) : Int)) := by omega
    rw [if_pos hlen]
    clear hop hlen
    repeat' first
     | apply z1 | apply z2
     | (apply z51 (id := 6) (ord := [0, 1, 2, 3, 4, 5, 6]) (ps := [(1, 5)]) <;> first | kernel_rfl | skip)
     | (apply z50 (id := 23) (ord := [0, 1, 2, 3, 4, 5, 6, 7]) <;> first | kernel_rfl | skip)
     | apply z52
     | (apply chkK_intro; (repeat ((first | (apply zc1; rfl) | (apply zc2; rfl) | (apply zc3; rfl; exact fun _ _ _ _ => rfl)); rfl; rfl; (first | rfl | (simp only [seval, push_cast, *] <;> fail)))); exact chk_nil)
     | ((first | (apply z54; rfl) | (apply z55; rfl) | ((first | (apply z56; rfl) | (apply z57; rfl)); (simp only [seval, push_cast, *] <;> fail))); (simp only [seval, push_cast, *]; with_reducible rfl); try exact of_decide_eq_true rfl)
     | ((first | (apply z58; rfl) | (apply z59; rfl)); (simp only [seval, push_cast, *] <;> fail); try exact of_decide_eq_true rfl)
     | apply z3 | apply z4 | apply z5 | apply z6 | apply z7 | apply z8 | apply z9 | apply z10 | apply z11 | apply z12 | apply z13 | apply z14 | apply z15 | apply z18 | apply z19 | apply z20 | apply z21 | apply z22 | apply z23 | (apply z16; rfl) | (apply z17; decide)
     | ((first | apply z30 | apply z31 | ((first | apply z32 | apply z33); (simp only [seval, push_cast, *] <;> fail))); (simp only [seval, push_cast, *]; with_reducible rfl); try exact of_decide_eq_true rfl)
     | ((first | apply z34 | apply z35); (simp only [seval, push_cast, *] <;> fail); try exact of_decide_eq_true rfl)
     | ((first | (apply z24; (simp only [seval, push_cast, *]; with_reducible rfl)) | (apply z36; (simp only [seval, push_cast, *]; (fail_if_success (show _ = some true)); (fail_if_success (show _ = some false)); with_reducible rfl)) | (apply z60; rfl; (simp only [seval, push_cast, *]; (fail_if_success (show _ = some true)); (fail_if_success (show _ = some false)); with_reducible rfl))); all_goals (intro hc; (try simp only [Bool.not_eq_true', Bool.not_eq_false'] at hc); (try (exact absurd hc Bool.noConfusion)); (first | have hq := dle_true hc | have hq := dlt_true hc | have hq := dle_false hc | have hq := dlt_false hc | skip); (try (exfalso; simp only [decide_eq_true_eq, decide_eq_false_iff_not] at hc; first | omega | (have := hk.out; omega)))))
     | ((first | apply z40 | apply z41 | (apply z42; (simp only [seval, push_cast, *]; with_reducible rfl))); (simp only [seval, push_cast, *]; with_reducible rfl); all_goals (first | (simp only [seval, push_cast, *] <;> fail) | (simp only [seval, push_cast] <;> fail) | (rw [frz_pure rfl] <;> (simp [*] <;> fail))))
  rw [if_neg (by simpa using hlen)]
  have dl : (x.args.length : Int) = ((argC k : Nat) : Int) := by omega
  have hloop := fun bs ρ => bs_odd bs H x i hal (by omega) (x.args.any (oddP i)) 0 ρ
  rw [hk] at hloop
  have hodd : x.args.any (fun n => !(decide (0 ≤ n) && decide (n ≤ (i : Int) - 1))) = x.args.any (oddP i) := rfl
  rw [hodd]
  have dl2 : Kp ((x.args.length : Int) = ((argC k : Nat) : Int)) := ⟨dl⟩
  have dl3 : decide ((x.args.length : Int) = ((argC k : Nat) : Int)) = true := decide_eq_true dl
  clear hop hodd dl
  repeat' first
   | apply z1 | apply z2
   | (apply z51 (id := 6) (ord := [0, 1, 2, 3, 4, 5, 6]) (ps := [(1, 5)]) <;> first | kernel_rfl | skip)
   | (apply z50 (id := 23) (ord := [0, 1, 2, 3, 4, 5, 6, 7]) <;> first | kernel_rfl | skip)
   | apply z52
   | (apply chkK_intro; (repeat ((first | (apply zc1; rfl) | (apply zc2; rfl) | (apply zc3; rfl; exact fun _ _ _ _ => rfl)); rfl; rfl; (first | rfl | (simp only [seval, push_cast, *] <;> fail)))); exact chk_nil)
   | ((first | (apply z54; rfl) | (apply z55; rfl) | ((first | (apply z56; rfl) | (apply z57; rfl)); (simp only [seval, push_cast, *] <;> fail))); (simp only [seval, push_cast, *]; with_reducible rfl); try exact of_decide_eq_true rfl)
   | ((first | (apply z58; rfl) | (apply z59; rfl)); (simp only [seval, push_cast, *] <;> fail); try exact of_decide_eq_true rfl)
   | apply z3 | apply z4 | apply z5 | apply z6 | apply z7 | apply z8 | apply z9 | apply z10 | apply z11 | apply z12 | apply z13 | apply z14 | apply z15 | apply z18 | apply z19 | apply z20 | apply z21 | apply z22 | apply z23 | (apply z16; rfl) | (apply z17; decide)
   | ((first | apply z30 | apply z31 | ((first | apply z32 | apply z33); (simp only [seval, push_cast, *] <;> fail))); (simp only [seval, push_cast, *]; with_reducible rfl); try exact of_decide_eq_true rfl)
   | ((first | apply z34 | apply z35); (simp only [seval, push_cast, *] <;> fail); try exact of_decide_eq_true rfl)
   | ((first | (apply z24; (simp only [seval, push_cast, *]; with_reducible rfl)) | (apply z36; (simp only [seval, push_cast, *]; (fail_if_success (show _ = some true)); (fail_if_success (show _ = some false)); with_reducible rfl)) | (apply z60; rfl; (simp only [seval, push_cast, *]; (fail_if_success (show _ = some true)); (fail_if_success (show _ = some false)); with_reducible rfl))); all_goals (intro hc; (try simp only [Bool.not_eq_true', Bool.not_eq_false'] at hc); (try (exact absurd hc Bool.noConfusion)); (first | have hq := dle_true hc | have hq := dlt_true hc | have hq := dle_false hc | have hq := dlt_false hc | skip); (try (exfalso; simp only [decide_eq_true_eq, decide_eq_false_iff_not] at hc; first | omega | (have := hk.out; omega)))))
   | ((first | apply z40 | apply z41 | (apply z42; (simp only [seval, push_cast, *]; with_reducible rfl))); (simp only [seval, push_cast, *]; with_reducible rfl); all_goals (first | (simp only [seval, push_cast, *] <;> fail) | (simp only [seval, push_cast] <;> fail) | (rw [frz_pure rfl] <;> (simp [*] <;> fail))))
  refine lp_then (lp_any (c := loopAt Tryz.f146 0) rfl (hloop _ _ _ (by omega) ⟨rfl, by (first | (simp only [seval, push_cast, *]; done) | (simp only [seval, push_cast, *]; rfl)), by (first | (simp only [seval, push_cast, *]; done) | (simp only [seval, push_cast, *]; rfl)), by (first | (simp only [seval, push_cast, *]; done) | (simp only [seval, push_cast, *]; rfl)), ⟨rfl⟩⟩)) ?_
  clear hloop
  rintro ex ρ' H' ⟨rfl, ⟨rfl, ho⟩ | ⟨rfl, h6, ho⟩⟩ hf
  case inr =>
    rw [ho, if_pos rfl]
    repeat' first
     | apply z1 | apply z2
     | (apply z51 (id := 6) (ord := [0, 1, 2, 3, 4, 5, 6]) (ps := [(1, 5)]) <;> first | kernel_rfl | skip)
     | (apply z50 (id := 23) (ord := [0, 1, 2, 3, 4, 5, 6, 7]) <;> first | kernel_rfl | skip)
     | apply z52
     | (apply chkK_intro; (repeat ((first | (apply zc1; rfl) | (apply zc2; rfl) | (apply zc3; rfl; exact fun _ _ _ _ => rfl)); rfl; rfl; (first | rfl | (simp only [seval, push_cast, *] <;> fail)))); exact chk_nil)
     | ((first | (apply z54; rfl) | (apply z55; rfl) | ((first | (apply z56; rfl) | (apply z57; rfl)); (simp only [seval, push_cast, *] <;> fail))); (simp only [seval, push_cast, *]; with_reducible rfl); try exact of_decide_eq_true rfl)
     | ((first | (apply z58; rfl) | (apply z59; rfl)); (simp only [seval, push_cast, *] <;> fail); try exact of_decide_eq_true rfl)
     | apply z3 | apply z4 | apply z5 | apply z6 | apply z7 | apply z8 | apply z9 | apply z10 | apply z11 | apply z12 | apply z13 | apply z14 | apply z15 | apply z18 | apply z19 | apply z20 | apply z21 | apply z22 | apply z23 | (apply z16; rfl) | (apply z17; decide)
     | ((first | apply z30 | apply z31 | ((first | apply z32 | apply z33); (simp only [seval, push_cast, *] <;> fail))); (simp only [seval, push_cast, *]; with_reducible rfl); try exact of_decide_eq_true rfl)
     | ((first | apply z34 | apply z35); (simp only [seval, push_cast, *] <;> fail); try exact of_decide_eq_true rfl)
     | ((first | (apply z24; (simp only [seval, push_cast, *]; with_reducible rfl)) | (apply z36; (simp only [seval, push_cast, *]; (fail_if_success (show _ = some true)); (fail_if_success (show _ = some false)); with_reducible rfl)) | (apply z60; rfl; (simp only [seval, push_cast, *]; (fail_if_success (show _ = some true)); (fail_if_success (show _ = some false)); with_reducible rfl))); all_goals (intro hc; (try simp only [Bool.not_eq_true', Bool.not_eq_false'] at hc); (try (exact absurd hc Bool.noConfusion)); (first | have hq := dle_true hc | have hq := dlt_true hc | have hq := dle_false hc | have hq := dlt_false hc | skip); (try (exfalso; simp only [decide_eq_true_eq, decide_eq_false_iff_not] at hc; first | omega | (have := hk.out; omega)))))
     | ((first | apply z40 | apply z41 | (apply z42; (simp only [seval, push_cast, *]; with_reducible rfl))); (simp only [seval, push_cast, *]; with_reducible rfl); all_goals (first | (simp only [seval, push_cast, *] <;> fail) | (simp only [seval, push_cast] <;> fail) | (rw [frz_pure rfl] <;> (simp [*] <;> fail))))
  rw [ho, if_neg (by simp)]
  have f7 := hf 7 rfl
  have f0 := hf 0 rfl
  have f1 := hf 1 rfl
  simp only [seval, push_cast] at f7 f0 f1
  clear hf
  have hargs : ∀ n ∈ x.args, 0 ≤ n ∧ n < nodes.length := fun n hnm => by
    rw [List.any_eq_false] at ho
    have := ho n hnm
    simp only [oddP, Bool.not_eq_true', Bool.and_eq_false_iff, decide_eq_false_iff_not, not_or, Decidable.not_not] at this
    omega
  have hlen : x.args.length = argC k := by have := dl2.out; omega
  have hwf := fun bs H (h2 : 2 ≤ k) => bs_widthsFit bs H x nodes k hk hk19 h2 hlen hargs
  have hfits := fun bs H => bs_fits bs H x.value x.width hw0
  simp only [encNode, encInts, hk] at hwf
  clear hargs ho hlen hac dl3
  by_cases h0 : k = 0
  · subst h0
    have hG : fitsG x.value x.width = fitsN x.value x.width := by unfold fitsG fitsN; rw [decide_eq_true hw0]; rfl
    simp only [valueErrS, if_true, hG, fitsS]
    clear hwf hG
    cases hv : fitsN x.value x.width
    · simp only [Bool.false_eq_true, if_false]
      repeat' first
       | apply z1 | apply z2
       | (apply z51 (id := 6) (ord := [0, 1, 2, 3, 4, 5, 6]) (ps := [(1, 5)]) <;> first | kernel_rfl | skip)
       | (apply z50 (id := 23) (ord := [0, 1, 2, 3, 4, 5, 6, 7]) <;> first | kernel_rfl | skip)
       | apply z52
       | (apply chkK_intro; (repeat ((first | (apply zc1; rfl) | (apply zc2; rfl) | (apply zc3; rfl; exact fun _ _ _ _ => rfl)); rfl; rfl; (first | rfl | (simp only [seval, push_cast, *] <;> fail)))); exact chk_nil)
       | ((first | (apply z54; rfl) | (apply z55; rfl) | ((first | (apply z56; rfl) | (apply z57; rfl)); (simp only [seval, push_cast, *] <;> fail))); (simp only [seval, push_cast, *]; with_reducible rfl); try exact of_decide_eq_true rfl)
       | ((first | (apply z58; rfl) | (apply z59; rfl)); (simp only [seval, push_cast, *] <;> fail); try exact of_decide_eq_true rfl)
       | apply z3 | apply z4 | apply z5 | apply z6 | apply z7 | apply z8 | apply z9 | apply z10 | apply z11 | apply z12 | apply z13 | apply z14 | apply z15 | apply z18 | apply z19 | apply z20 | apply z21 | apply z22 | apply z23 | (apply z16; rfl) | (apply z17; decide)
       | ((first | apply z30 | apply z31 | ((first | apply z32 | apply z33); (simp only [seval, push_cast, *] <;> fail))); (simp only [seval, push_cast, *]; with_reducible rfl); try exact of_decide_eq_true rfl)
       | ((first | apply z34 | apply z35); (simp only [seval, push_cast, *] <;> fail); try exact of_decide_eq_true rfl)
       | ((first | (apply z24; (simp only [seval, push_cast, *]; with_reducible rfl)) | (apply z36; (simp only [seval, push_cast, *]; (fail_if_success (show _ = some true)); (fail_if_success (show _ = some false)); with_reducible rfl)) | (apply z60; rfl; (simp only [seval, push_cast, *]; (fail_if_success (show _ = some true)); (fail_if_success (show _ = some false)); with_reducible rfl))); all_goals (intro hc; (try simp only [Bool.not_eq_true', Bool.not_eq_false'] at hc); (try (exact absurd hc Bool.noConfusion)); (first | have hq := dle_true hc | have hq := dlt_true hc | have hq := dle_false hc | have hq := dlt_false hc | skip); (try (exfalso; simp only [decide_eq_true_eq, decide_eq_false_iff_not] at hc; first | omega | (have := hk.out; omega)))))
       | ((first | apply z40 | apply z41 | (apply z42; (simp only [seval, push_cast, *]; with_reducible rfl))); (simp only [seval, push_cast, *]; with_reducible rfl); all_goals (first | (simp only [seval, push_cast, *] <;> fail) | (simp only [seval, push_cast] <;> fail) | (rw [frz_pure rfl] <;> (simp [*] <;> fail))))
    · simp only [if_true]
      repeat' first
       | apply z1 | apply z2
       | (apply z51 (id := 6) (ord := [0, 1, 2, 3, 4, 5, 6]) (ps := [(1, 5)]) <;> first | kernel_rfl | skip)
       | (apply z50 (id := 23) (ord := [0, 1, 2, 3, 4, 5, 6, 7]) <;> first | kernel_rfl | skip)
       | apply z52
       | (apply chkK_intro; (repeat ((first | (apply zc1; rfl) | (apply zc2; rfl) | (apply zc3; rfl; exact fun _ _ _ _ => rfl)); rfl; rfl; (first | rfl | (simp only [seval, push_cast, *] <;> fail)))); exact chk_nil)
       | ((first | (apply z54; rfl) | (apply z55; rfl) | ((first | (apply z56; rfl) | (apply z57; rfl)); (simp only [seval, push_cast, *] <;> fail))); (simp only [seval, push_cast, *]; with_reducible rfl); try exact of_decide_eq_true rfl)
       | ((first | (apply z58; rfl) | (apply z59; rfl)); (simp only [seval, push_cast, *] <;> fail); try exact of_decide_eq_true rfl)
       | apply z3 | apply z4 | apply z5 | apply z6 | apply z7 | apply z8 | apply z9 | apply z10 | apply z11 | apply z12 | apply z13 | apply z14 | apply z15 | apply z18 | apply z19 | apply z20 | apply z21 | apply z22 | apply z23 | (apply z16; rfl) | (apply z17; decide)
       | ((first | apply z30 | apply z31 | ((first | apply z32 | apply z33); (simp only [seval, push_cast, *] <;> fail))); (simp only [seval, push_cast, *]; with_reducible rfl); try exact of_decide_eq_true rfl)
       | ((first | apply z34 | apply z35); (simp only [seval, push_cast, *] <;> fail); try exact of_decide_eq_true rfl)
       | ((first | (apply z24; (simp only [seval, push_cast, *]; with_reducible rfl)) | (apply z36; (simp only [seval, push_cast, *]; (fail_if_success (show _ = some true)); (fail_if_success (show _ = some false)); with_reducible rfl)) | (apply z60; rfl; (simp only [seval, push_cast, *]; (fail_if_success (show _ = some true)); (fail_if_success (show _ = some false)); with_reducible rfl))); all_goals (intro hc; (try simp only [Bool.not_eq_true', Bool.not_eq_false'] at hc); (try (exact absurd hc Bool.noConfusion)); (first | have hq := dle_true hc | have hq := dlt_true hc | have hq := dle_false hc | have hq := dlt_false hc | skip); (try (exfalso; simp only [decide_eq_true_eq, decide_eq_false_iff_not] at hc; first | omega | (have := hk.out; omega)))))
       | ((first | apply z40 | apply z41 | (apply z42; (simp only [seval, push_cast, *]; with_reducible rfl))); (simp only [seval, push_cast, *]; with_reducible rfl); all_goals (first | (simp only [seval, push_cast, *] <;> fail) | (simp only [seval, push_cast] <;> fail) | (rw [frz_pure rfl] <;> (simp [*] <;> fail))))
  have d0 : decide ((k : Int) = 0) = false := nat0 k 0 h0
  by_cases h1 : k = 1
  · subst h1
    have hw := sub1 leaves.length hl
    clear hwf hfits
    simp only [valueErrS, if_true, if_neg h0, fitsS]
    by_cases hv : 0 ≤ x.value ∧ x.value < leaves.length
    · obtain ⟨v, hvv⟩ : ∃ v : Nat, x.value = v := ⟨x.value.toNat, by omega⟩
      have hlt : v < leaves.length := by omega
      have hget : leaves[v]? = some leaves[v] := by simp [hlt]
      have hat : at0 leaves v = leaves[v] := by simp [at0, List.getD, hget]
      rw [if_pos hv, hvv, Int.toNat_natCast, hat]
      have hb : (decide (0 ≤ (v : Int)) && decide ((v : Int) ≤ (leaves.length : Int) - 1)) = true := by rw [Bool.and_eq_true, decide_eq_true_eq, decide_eq_true_eq]; omega
      have hle : (v : Int) ≤ (leaves.length : Int) - 1 := by omega
      clear hv hat
      generalize leaves[v] = y at hget
      by_cases hy : y = x.width
      · rw [if_pos hy]
        repeat' first
         | apply z1 | apply z2
         | (apply z51 (id := 6) (ord := [0, 1, 2, 3, 4, 5, 6]) (ps := [(1, 5)]) <;> first | kernel_rfl | skip)
         | (apply z50 (id := 23) (ord := [0, 1, 2, 3, 4, 5, 6, 7]) <;> first | kernel_rfl | skip)
         | apply z52
         | (apply chkK_intro; (repeat ((first | (apply zc1; rfl) | (apply zc2; rfl) | (apply zc3; rfl; exact fun _ _ _ _ => rfl)); rfl; rfl; (first | rfl | (simp only [seval, push_cast, *] <;> fail)))); exact chk_nil)
         | ((first | (apply z54; rfl) | (apply z55; rfl) | ((first | (apply z56; rfl) | (apply z57; rfl)); (simp only [seval, push_cast, *] <;> fail))); (simp only [seval, push_cast, *]; with_reducible rfl); try exact of_decide_eq_true rfl)
         | ((first | (apply z58; rfl) | (apply z59; rfl)); (simp only [seval, push_cast, *] <;> fail); try exact of_decide_eq_true rfl)
         | apply z3 | apply z4 | apply z5 | apply z6 | apply z7 | apply z8 | apply z9 | apply z10 | apply z11 | apply z12 | apply z13 | apply z14 | apply z15 | apply z18 | apply z19 | apply z20 | apply z21 | apply z22 | apply z23 | (apply z16; rfl) | (apply z17; decide)
         | ((first | apply z30 | apply z31 | ((first | apply z32 | apply z33); (simp only [seval, push_cast, *] <;> fail))); (simp only [seval, push_cast, *]; with_reducible rfl); try exact of_decide_eq_true rfl)
         | ((first | apply z34 | apply z35); (simp only [seval, push_cast, *] <;> fail); try exact of_decide_eq_true rfl)
         | ((first | (apply z24; (simp only [seval, push_cast, *]; with_reducible rfl)) | (apply z36; (simp only [seval, push_cast, *]; (fail_if_success (show _ = some true)); (fail_if_success (show _ = some false)); with_reducible rfl)) | (apply z60; rfl; (simp only [seval, push_cast, *]; (fail_if_success (show _ = some true)); (fail_if_success (show _ = some false)); with_reducible rfl))); all_goals (intro hc; (try simp only [Bool.not_eq_true', Bool.not_eq_false'] at hc); (try (exact absurd hc Bool.noConfusion)); (first | have hq := dle_true hc | have hq := dlt_true hc | have hq := dle_false hc | have hq := dlt_false hc | skip); (try (exfalso; simp only [decide_eq_true_eq, decide_eq_false_iff_not] at hc; first | omega | (have := hk.out; omega)))))
         | ((first | apply z40 | apply z41 | (apply z42; (simp only [seval, push_cast, *]; with_reducible rfl))); (simp only [seval, push_cast, *]; with_reducible rfl); all_goals (first | (simp only [seval, push_cast, *] <;> fail) | (simp only [seval, push_cast] <;> fail) | (rw [frz_pure rfl] <;> (simp [*] <;> fail))))
      · rw [if_neg hy]
        repeat' first
         | apply z1 | apply z2
         | (apply z51 (id := 6) (ord := [0, 1, 2, 3, 4, 5, 6]) (ps := [(1, 5)]) <;> first | kernel_rfl | skip)
         | (apply z50 (id := 23) (ord := [0, 1, 2, 3, 4, 5, 6, 7]) <;> first | kernel_rfl | skip)
         | apply z52
         | (apply chkK_intro; (repeat ((first | (apply zc1; rfl) | (apply zc2; rfl) | (apply zc3; rfl; exact fun _ _ _ _ => rfl)); rfl; rfl; (first | rfl | (simp only [seval, push_cast, *] <;> fail)))); exact chk_nil)
         | ((first | (apply z54; rfl) | (apply z55; rfl) | ((first | (apply z56; rfl) | (apply z57; rfl)); (simp only [seval, push_cast, *] <;> fail))); (simp only [seval, push_cast, *]; with_reducible rfl); try exact of_decide_eq_true rfl)
         | ((first | (apply z58; rfl) | (apply z59; rfl)); (simp only [seval, push_cast, *] <;> fail); try exact of_decide_eq_true rfl)
         | apply z3 | apply z4 | apply z5 | apply z6 | apply z7 | apply z8 | apply z9 | apply z10 | apply z11 | apply z12 | apply z13 | apply z14 | apply z15 | apply z18 | apply z19 | apply z20 | apply z21 | apply z22 | apply z23 | (apply z16; rfl) | (apply z17; decide)
         | ((first | apply z30 | apply z31 | ((first | apply z32 | apply z33); (simp only [seval, push_cast, *] <;> fail))); (simp only [seval, push_cast, *]; with_reducible rfl); try exact of_decide_eq_true rfl)
         | ((first | apply z34 | apply z35); (simp only [seval, push_cast, *] <;> fail); try exact of_decide_eq_true rfl)
         | ((first | (apply z24; (simp only [seval, push_cast, *]; with_reducible rfl)) | (apply z36; (simp only [seval, push_cast, *]; (fail_if_success (show _ = some true)); (fail_if_success (show _ = some false)); with_reducible rfl)) | (apply z60; rfl; (simp only [seval, push_cast, *]; (fail_if_success (show _ = some true)); (fail_if_success (show _ = some false)); with_reducible rfl))); all_goals (intro hc; (try simp only [Bool.not_eq_true', Bool.not_eq_false'] at hc); (try (exact absurd hc Bool.noConfusion)); (first | have hq := dle_true hc | have hq := dlt_true hc | have hq := dle_false hc | have hq := dlt_false hc | skip); (try (exfalso; simp only [decide_eq_true_eq, decide_eq_false_iff_not] at hc; first | omega | (have := hk.out; omega)))))
         | ((first | apply z40 | apply z41 | (apply z42; (simp only [seval, push_cast, *]; with_reducible rfl))); (simp only [seval, push_cast, *]; with_reducible rfl); all_goals (first | (simp only [seval, push_cast, *] <;> fail) | (simp only [seval, push_cast] <;> fail) | (rw [frz_pure rfl] <;> (simp [*] <;> fail))))
    · have hb : (decide (0 ≤ x.value) && decide (x.value ≤ (leaves.length : Int) - 1)) = false := by
        rw [Bool.and_eq_false_iff, decide_eq_false_iff_not, decide_eq_false_iff_not]; omega
      rw [if_neg hv]
      clear hv
      repeat' first
       | apply z1 | apply z2
       | (apply z51 (id := 6) (ord := [0, 1, 2, 3, 4, 5, 6]) (ps := [(1, 5)]) <;> first | kernel_rfl | skip)
       | (apply z50 (id := 23) (ord := [0, 1, 2, 3, 4, 5, 6, 7]) <;> first | kernel_rfl | skip)
       | apply z52
       | (apply chkK_intro; (repeat ((first | (apply zc1; rfl) | (apply zc2; rfl) | (apply zc3; rfl; exact fun _ _ _ _ => rfl)); rfl; rfl; (first | rfl | (simp only [seval, push_cast, *] <;> fail)))); exact chk_nil)
       | ((first | (apply z54; rfl) | (apply z55; rfl) | ((first | (apply z56; rfl) | (apply z57; rfl)); (simp only [seval, push_cast, *] <;> fail))); (simp only [seval, push_cast, *]; with_reducible rfl); try exact of_decide_eq_true rfl)
       | ((first | (apply z58; rfl) | (apply z59; rfl)); (simp only [seval, push_cast, *] <;> fail); try exact of_decide_eq_true rfl)
       | apply z3 | apply z4 | apply z5 | apply z6 | apply z7 | apply z8 | apply z9 | apply z10 | apply z11 | apply z12 | apply z13 | apply z14 | apply z15 | apply z18 | apply z19 | apply z20 | apply z21 | apply z22 | apply z23 | (apply z16; rfl) | (apply z17; decide)
       | ((first | apply z30 | apply z31 | ((first | apply z32 | apply z33); (simp only [seval, push_cast, *] <;> fail))); (simp only [seval, push_cast, *]; with_reducible rfl); try exact of_decide_eq_true rfl)
       | ((first | apply z34 | apply z35); (simp only [seval, push_cast, *] <;> fail); try exact of_decide_eq_true rfl)
       | ((first | (apply z24; (simp only [seval, push_cast, *]; with_reducible rfl)) | (apply z36; (simp only [seval, push_cast, *]; (fail_if_success (show _ = some true)); (fail_if_success (show _ = some false)); with_reducible rfl)) | (apply z60; rfl; (simp only [seval, push_cast, *]; (fail_if_success (show _ = some true)); (fail_if_success (show _ = some false)); with_reducible rfl))); all_goals (intro hc; (try simp only [Bool.not_eq_true', Bool.not_eq_false'] at hc); (try (exact absurd hc Bool.noConfusion)); (first | have hq := dle_true hc | have hq := dlt_true hc | have hq := dle_false hc | have hq := dlt_false hc | skip); (try (exfalso; simp only [decide_eq_true_eq, decide_eq_false_iff_not] at hc; first | omega | (have := hk.out; omega)))))
       | ((first | apply z40 | apply z41 | (apply z42; (simp only [seval, push_cast, *]; with_reducible rfl))); (simp only [seval, push_cast, *]; with_reducible rfl); all_goals (first | (simp only [seval, push_cast, *] <;> fail) | (simp only [seval, push_cast] <;> fail) | (rw [frz_pure rfl] <;> (simp [*] <;> fail))))
  have d1 : decide ((k : Int) = 1) = false := nat0 k 1 h1
  replace hwf := fun bs H => hwf bs H (by omega)
  clear hfits
  generalize hg : fitsS k x.width (widthsOf nodes x.args) x.value = fb at hwf
  by_cases h2 : k = 14
  · subst h2
    clear hg
    have e14 : ((14 : Nat) : Int) = 14 := rfl
    rw [e14] at hwf
    simp only [valueErrS, if_true, if_neg h0, if_neg h1]
    cases hv : (decide (0 ≤ x.value) && decide (x.value ≤ 15))
    · simp only [Bool.false_eq_true, if_false]
      repeat' first
       | apply z1 | apply z2
       | (apply z51 (id := 6) (ord := [0, 1, 2, 3, 4, 5, 6]) (ps := [(1, 5)]) <;> first | kernel_rfl | skip)
       | (apply z50 (id := 23) (ord := [0, 1, 2, 3, 4, 5, 6, 7]) <;> first | kernel_rfl | skip)
       | apply z52
       | (apply chkK_intro; (repeat ((first | (apply zc1; rfl) | (apply zc2; rfl) | (apply zc3; rfl; exact fun _ _ _ _ => rfl)); rfl; rfl; (first | rfl | (simp only [seval, push_cast, *] <;> fail)))); exact chk_nil)
       | ((first | (apply z54; rfl) | (apply z55; rfl) | ((first | (apply z56; rfl) | (apply z57; rfl)); (simp only [seval, push_cast, *] <;> fail))); (simp only [seval, push_cast, *]; with_reducible rfl); try exact of_decide_eq_true rfl)
       | ((first | (apply z58; rfl) | (apply z59; rfl)); (simp only [seval, push_cast, *] <;> fail); try exact of_decide_eq_true rfl)
       | apply z3 | apply z4 | apply z5 | apply z6 | apply z7 | apply z8 | apply z9 | apply z10 | apply z11 | apply z12 | apply z13 | apply z14 | apply z15 | apply z18 | apply z19 | apply z20 | apply z21 | apply z22 | apply z23 | (apply z16; rfl) | (apply z17; decide)
       | ((first | apply z30 | apply z31 | ((first | apply z32 | apply z33); (simp only [seval, push_cast, *] <;> fail))); (simp only [seval, push_cast, *]; with_reducible rfl); try exact of_decide_eq_true rfl)
       | ((first | apply z34 | apply z35); (simp only [seval, push_cast, *] <;> fail); try exact of_decide_eq_true rfl)
       | ((first | (apply z24; (simp only [seval, push_cast, *]; with_reducible rfl)) | (apply z36; (simp only [seval, push_cast, *]; (fail_if_success (show _ = some true)); (fail_if_success (show _ = some false)); with_reducible rfl)) | (apply z60; rfl; (simp only [seval, push_cast, *]; (fail_if_success (show _ = some true)); (fail_if_success (show _ = some false)); with_reducible rfl))); all_goals (intro hc; (try simp only [Bool.not_eq_true', Bool.not_eq_false'] at hc); (try (exact absurd hc Bool.noConfusion)); (first | have hq := dle_true hc | have hq := dlt_true hc | have hq := dle_false hc | have hq := dlt_false hc | skip); (try (exfalso; simp only [decide_eq_true_eq, decide_eq_false_iff_not] at hc; first | omega | (have := hk.out; omega)))))
       | ((first | apply z40 | apply z41 | (apply z42; (simp only [seval, push_cast, *]; with_reducible rfl))); (simp only [seval, push_cast, *]; with_reducible rfl); all_goals (first | (simp only [seval, push_cast, *] <;> fail) | (simp only [seval, push_cast] <;> fail) | (rw [frz_pure rfl] <;> (simp [*] <;> fail))))
    · simp only [if_true]
      cases fb
      · repeat' first
         | apply z1 | apply z2
         | (apply z51 (id := 6) (ord := [0, 1, 2, 3, 4, 5, 6]) (ps := [(1, 5)]) <;> first | kernel_rfl | skip)
         | (apply z50 (id := 23) (ord := [0, 1, 2, 3, 4, 5, 6, 7]) <;> first | kernel_rfl | skip)
         | apply z52
         | (apply chkK_intro; (repeat ((first | (apply zc1; rfl) | (apply zc2; rfl) | (apply zc3; rfl; exact fun _ _ _ _ => rfl)); rfl; rfl; (first | rfl | (simp only [seval, push_cast, *] <;> fail)))); exact chk_nil)
         | ((first | (apply z54; rfl) | (apply z55; rfl) | ((first | (apply z56; rfl) | (apply z57; rfl)); (simp only [seval, push_cast, *] <;> fail))); (simp only [seval, push_cast, *]; with_reducible rfl); try exact of_decide_eq_true rfl)
         | ((first | (apply z58; rfl) | (apply z59; rfl)); (simp only [seval, push_cast, *] <;> fail); try exact of_decide_eq_true rfl)
         | apply z3 | apply z4 | apply z5 | apply z6 | apply z7 | apply z8 | apply z9 | apply z10 | apply z11 | apply z12 | apply z13 | apply z14 | apply z15 | apply z18 | apply z19 | apply z20 | apply z21 | apply z22 | apply z23 | (apply z16; rfl) | (apply z17; decide)
         | ((first | apply z30 | apply z31 | ((first | apply z32 | apply z33); (simp only [seval, push_cast, *] <;> fail))); (simp only [seval, push_cast, *]; with_reducible rfl); try exact of_decide_eq_true rfl)
         | ((first | apply z34 | apply z35); (simp only [seval, push_cast, *] <;> fail); try exact of_decide_eq_true rfl)
         | ((first | (apply z24; (simp only [seval, push_cast, *]; with_reducible rfl)) | (apply z36; (simp only [seval, push_cast, *]; (fail_if_success (show _ = some true)); (fail_if_success (show _ = some false)); with_reducible rfl)) | (apply z60; rfl; (simp only [seval, push_cast, *]; (fail_if_success (show _ = some true)); (fail_if_success (show _ = some false)); with_reducible rfl))); all_goals (intro hc; (try simp only [Bool.not_eq_true', Bool.not_eq_false'] at hc); (try (exact absurd hc Bool.noConfusion)); (first | have hq := dle_true hc | have hq := dlt_true hc | have hq := dle_false hc | have hq := dlt_false hc | skip); (try (exfalso; simp only [decide_eq_true_eq, decide_eq_false_iff_not] at hc; first | omega | (have := hk.out; omega)))))
         | ((first | apply z40 | apply z41 | (apply z42; (simp only [seval, push_cast, *]; with_reducible rfl))); (simp only [seval, push_cast, *]; with_reducible rfl); all_goals (first | (simp only [seval, push_cast, *] <;> fail) | (simp only [seval, push_cast] <;> fail) | (rw [frz_pure rfl] <;> (simp [*] <;> fail))))
      · repeat' first
         | apply z1 | apply z2
         | (apply z51 (id := 6) (ord := [0, 1, 2, 3, 4, 5, 6]) (ps := [(1, 5)]) <;> first | kernel_rfl | skip)
         | (apply z50 (id := 23) (ord := [0, 1, 2, 3, 4, 5, 6, 7]) <;> first | kernel_rfl | skip)
         | apply z52
         | (apply chkK_intro; (repeat ((first | (apply zc1; rfl) | (apply zc2; rfl) | (apply zc3; rfl; exact fun _ _ _ _ => rfl)); rfl; rfl; (first | rfl | (simp only [seval, push_cast, *] <;> fail)))); exact chk_nil)
         | ((first | (apply z54; rfl) | (apply z55; rfl) | ((first | (apply z56; rfl) | (apply z57; rfl)); (simp only [seval, push_cast, *] <;> fail))); (simp only [seval, push_cast, *]; with_reducible rfl); try exact of_decide_eq_true rfl)
         | ((first | (apply z58; rfl) | (apply z59; rfl)); (simp only [seval, push_cast, *] <;> fail); try exact of_decide_eq_true rfl)
         | apply z3 | apply z4 | apply z5 | apply z6 | apply z7 | apply z8 | apply z9 | apply z10 | apply z11 | apply z12 | apply z13 | apply z14 | apply z15 | apply z18 | apply z19 | apply z20 | apply z21 | apply z22 | apply z23 | (apply z16; rfl) | (apply z17; decide)
         | ((first | apply z30 | apply z31 | ((first | apply z32 | apply z33); (simp only [seval, push_cast, *] <;> fail))); (simp only [seval, push_cast, *]; with_reducible rfl); try exact of_decide_eq_true rfl)
         | ((first | apply z34 | apply z35); (simp only [seval, push_cast, *] <;> fail); try exact of_decide_eq_true rfl)
         | ((first | (apply z24; (simp only [seval, push_cast, *]; with_reducible rfl)) | (apply z36; (simp only [seval, push_cast, *]; (fail_if_success (show _ = some true)); (fail_if_success (show _ = some false)); with_reducible rfl)) | (apply z60; rfl; (simp only [seval, push_cast, *]; (fail_if_success (show _ = some true)); (fail_if_success (show _ = some false)); with_reducible rfl))); all_goals (intro hc; (try simp only [Bool.not_eq_true', Bool.not_eq_false'] at hc); (try (exact absurd hc Bool.noConfusion)); (first | have hq := dle_true hc | have hq := dlt_true hc | have hq := dle_false hc | have hq := dlt_false hc | skip); (try (exfalso; simp only [decide_eq_true_eq, decide_eq_false_iff_not] at hc; first | omega | (have := hk.out; omega)))))
         | ((first | apply z40 | apply z41 | (apply z42; (simp only [seval, push_cast, *]; with_reducible rfl))); (simp only [seval, push_cast, *]; with_reducible rfl); all_goals (first | (simp only [seval, push_cast, *] <;> fail) | (simp only [seval, push_cast] <;> fail) | (rw [frz_pure rfl] <;> (simp [*] <;> fail))))
  have d2 : decide ((k : Int) = 14) = false := nat0 k 14 h2
  have hhv : hasV k = false := by
    rcases or19 hk19 with rfl | rfl | rfl | rfl | rfl | rfl | rfl | rfl | rfl | rfl | rfl | rfl | rfl | rfl | rfl | rfl | rfl | rfl | rfl <;> first | rfl | (exfalso; omega)
  simp only [valueErrS, if_neg h0, if_neg h1, if_neg h2, hhv]
  clear h0 h1 h2 hg
  by_cases hv : x.value = 0
  · rw [hv] at hwf
    cases fb
    · repeat' first
       | apply z1 | apply z2
       | (apply z51 (id := 6) (ord := [0, 1, 2, 3, 4, 5, 6]) (ps := [(1, 5)]) <;> first | kernel_rfl | skip)
       | (apply z50 (id := 23) (ord := [0, 1, 2, 3, 4, 5, 6, 7]) <;> first | kernel_rfl | skip)
       | apply z52
       | (apply chkK_intro; (repeat ((first | (apply zc1; rfl) | (apply zc2; rfl) | (apply zc3; rfl; exact fun _ _ _ _ => rfl)); rfl; rfl; (first | rfl | (simp only [seval, push_cast, *] <;> fail)))); exact chk_nil)
       | ((first | (apply z54; rfl) | (apply z55; rfl) | ((first | (apply z56; rfl) | (apply z57; rfl)); (simp only [seval, push_cast, *] <;> fail))); (simp only [seval, push_cast, *]; with_reducible rfl); try exact of_decide_eq_true rfl)
       | ((first | (apply z58; rfl) | (apply z59; rfl)); (simp only [seval, push_cast, *] <;> fail); try exact of_decide_eq_true rfl)
       | apply z3 | apply z4 | apply z5 | apply z6 | apply z7 | apply z8 | apply z9 | apply z10 | apply z11 | apply z12 | apply z13 | apply z14 | apply z15 | apply z18 | apply z19 | apply z20 | apply z21 | apply z22 | apply z23 | (apply z16; rfl) | (apply z17; decide)
       | ((first | apply z30 | apply z31 | ((first | apply z32 | apply z33); (simp only [seval, push_cast, *] <;> fail))); (simp only [seval, push_cast, *]; with_reducible rfl); try exact of_decide_eq_true rfl)
       | ((first | apply z34 | apply z35); (simp only [seval, push_cast, *] <;> fail); try exact of_decide_eq_true rfl)
       | ((first | (apply z24; (simp only [seval, push_cast, *]; with_reducible rfl)) | (apply z36; (simp only [seval, push_cast, *]; (fail_if_success (show _ = some true)); (fail_if_success (show _ = some false)); with_reducible rfl)) | (apply z60; rfl; (simp only [seval, push_cast, *]; (fail_if_success (show _ = some true)); (fail_if_success (show _ = some false)); with_reducible rfl))); all_goals (intro hc; (try simp only [Bool.not_eq_true', Bool.not_eq_false'] at hc); (try (exact absurd hc Bool.noConfusion)); (first | have hq := dle_true hc | have hq := dlt_true hc | have hq := dle_false hc | have hq := dlt_false hc | skip); (try (exfalso; simp only [decide_eq_true_eq, decide_eq_false_iff_not] at hc; first | omega | (have := hk.out; omega)))))
       | ((first | apply z40 | apply z41 | (apply z42; (simp only [seval, push_cast, *]; with_reducible rfl))); (simp only [seval, push_cast, *]; with_reducible rfl); all_goals (first | (simp only [seval, push_cast, *] <;> fail) | (simp only [seval, push_cast] <;> fail) | (rw [frz_pure rfl] <;> (simp [*] <;> fail))))
    · repeat' first
       | apply z1 | apply z2
       | (apply z51 (id := 6) (ord := [0, 1, 2, 3, 4, 5, 6]) (ps := [(1, 5)]) <;> first | kernel_rfl | skip)
       | (apply z50 (id := 23) (ord := [0, 1, 2, 3, 4, 5, 6, 7]) <;> first | kernel_rfl | skip)
       | apply z52
       | (apply chkK_intro; (repeat ((first | (apply zc1; rfl) | (apply zc2; rfl) | (apply zc3; rfl; exact fun _ _ _ _ => rfl)); rfl; rfl; (first | rfl | (simp only [seval, push_cast, *] <;> fail)))); exact chk_nil)
       | ((first | (apply z54; rfl) | (apply z55; rfl) | ((first | (apply z56; rfl) | (apply z57; rfl)); (simp only [seval, push_cast, *] <;> fail))); (simp only [seval, push_cast, *]; with_reducible rfl); try exact of_decide_eq_true rfl)
       | ((first | (apply z58; rfl) | (apply z59; rfl)); (simp only [seval, push_cast, *] <;> fail); try exact of_decide_eq_true rfl)
       | apply z3 | apply z4 | apply z5 | apply z6 | apply z7 | apply z8 | apply z9 | apply z10 | apply z11 | apply z12 | apply z13 | apply z14 | apply z15 | apply z18 | apply z19 | apply z20 | apply z21 | apply z22 | apply z23 | (apply z16; rfl) | (apply z17; decide)
       | ((first | apply z30 | apply z31 | ((first | apply z32 | apply z33); (simp only [seval, push_cast, *] <;> fail))); (simp only [seval, push_cast, *]; with_reducible rfl); try exact of_decide_eq_true rfl)
       | ((first | apply z34 | apply z35); (simp only [seval, push_cast, *] <;> fail); try exact of_decide_eq_true rfl)
       | ((first | (apply z24; (simp only [seval, push_cast, *]; with_reducible rfl)) | (apply z36; (simp only [seval, push_cast, *]; (fail_if_success (show _ = some true)); (fail_if_success (show _ = some false)); with_reducible rfl)) | (apply z60; rfl; (simp only [seval, push_cast, *]; (fail_if_success (show _ = some true)); (fail_if_success (show _ = some false)); with_reducible rfl))); all_goals (intro hc; (try simp only [Bool.not_eq_true', Bool.not_eq_false'] at hc); (try (exact absurd hc Bool.noConfusion)); (first | have hq := dle_true hc | have hq := dlt_true hc | have hq := dle_false hc | have hq := dlt_false hc | skip); (try (exfalso; simp only [decide_eq_true_eq, decide_eq_false_iff_not] at hc; first | omega | (have := hk.out; omega)))))
       | ((first | apply z40 | apply z41 | (apply z42; (simp only [seval, push_cast, *]; with_reducible rfl))); (simp only [seval, push_cast, *]; with_reducible rfl); all_goals (first | (simp only [seval, push_cast, *] <;> fail) | (simp only [seval, push_cast] <;> fail) | (rw [frz_pure rfl] <;> (simp [*] <;> fail))))
  · cases fb
    · repeat' first
       | apply z1 | apply z2
       | (apply z51 (id := 6) (ord := [0, 1, 2, 3, 4, 5, 6]) (ps := [(1, 5)]) <;> first | kernel_rfl | skip)
       | (apply z50 (id := 23) (ord := [0, 1, 2, 3, 4, 5, 6, 7]) <;> first | kernel_rfl | skip)
       | apply z52
       | (apply chkK_intro; (repeat ((first | (apply zc1; rfl) | (apply zc2; rfl) | (apply zc3; rfl; exact fun _ _ _ _ => rfl)); rfl; rfl; (first | rfl | (simp only [seval, push_cast, *] <;> fail)))); exact chk_nil)
       | ((first | (apply z54; rfl) | (apply z55; rfl) | ((first | (apply z56; rfl) | (apply z57; rfl)); (simp only [seval, push_cast, *] <;> fail))); (simp only [seval, push_cast, *]; with_reducible rfl); try exact of_decide_eq_true rfl)
       | ((first | (apply z58; rfl) | (apply z59; rfl)); (simp only [seval, push_cast, *] <;> fail); try exact of_decide_eq_true rfl)
       | apply z3 | apply z4 | apply z5 | apply z6 | apply z7 | apply z8 | apply z9 | apply z10 | apply z11 | apply z12 | apply z13 | apply z14 | apply z15 | apply z18 | apply z19 | apply z20 | apply z21 | apply z22 | apply z23 | (apply z16; rfl) | (apply z17; decide)
       | ((first | apply z30 | apply z31 | ((first | apply z32 | apply z33); (simp only [seval, push_cast, *] <;> fail))); (simp only [seval, push_cast, *]; with_reducible rfl); try exact of_decide_eq_true rfl)
       | ((first | apply z34 | apply z35); (simp only [seval, push_cast, *] <;> fail); try exact of_decide_eq_true rfl)
       | ((first | (apply z24; (simp only [seval, push_cast, *]; with_reducible rfl)) | (apply z36; (simp only [seval, push_cast, *]; (fail_if_success (show _ = some true)); (fail_if_success (show _ = some false)); with_reducible rfl)) | (apply z60; rfl; (simp only [seval, push_cast, *]; (fail_if_success (show _ = some true)); (fail_if_success (show _ = some false)); with_reducible rfl))); all_goals (intro hc; (try simp only [Bool.not_eq_true', Bool.not_eq_false'] at hc); (try (exact absurd hc Bool.noConfusion)); (first | have hq := dle_true hc | have hq := dlt_true hc | have hq := dle_false hc | have hq := dlt_false hc | skip); (try (exfalso; simp only [decide_eq_true_eq, decide_eq_false_iff_not] at hc; first | omega | (have := hk.out; omega)))))
       | ((first | apply z40 | apply z41 | (apply z42; (simp only [seval, push_cast, *]; with_reducible rfl))); (simp only [seval, push_cast, *]; with_reducible rfl); all_goals (first | (simp only [seval, push_cast, *] <;> fail) | (simp only [seval, push_cast] <;> fail) | (rw [frz_pure rfl] <;> (simp [*] <;> fail))))
    · repeat' first
       | apply z1 | apply z2
       | (apply z51 (id := 6) (ord := [0, 1, 2, 3, 4, 5, 6]) (ps := [(1, 5)]) <;> first | kernel_rfl | skip)
       | (apply z50 (id := 23) (ord := [0, 1, 2, 3, 4, 5, 6, 7]) <;> first | kernel_rfl | skip)
       | apply z52
       | (apply chkK_intro; (repeat ((first | (apply zc1; rfl) | (apply zc2; rfl) | (apply zc3; rfl; exact fun _ _ _ _ => rfl)); rfl; rfl; (first | rfl | (simp only [seval, push_cast, *] <;> fail)))); exact chk_nil)
       | ((first | (apply z54; rfl) | (apply z55; rfl) | ((first | (apply z56; rfl) | (apply z57; rfl)); (simp only [seval, push_cast, *] <;> fail))); (simp only [seval, push_cast, *]; with_reducible rfl); try exact of_decide_eq_true rfl)
       | ((first | (apply z58; rfl) | (apply z59; rfl)); (simp only [seval, push_cast, *] <;> fail); try exact of_decide_eq_true rfl)
       | apply z3 | apply z4 | apply z5 | apply z6 | apply z7 | apply z8 | apply z9 | apply z10 | apply z11 | apply z12 | apply z13 | apply z14 | apply z15 | apply z18 | apply z19 | apply z20 | apply z21 | apply z22 | apply z23 | (apply z16; rfl) | (apply z17; decide)
       | ((first | apply z30 | apply z31 | ((first | apply z32 | apply z33); (simp only [seval, push_cast, *] <;> fail))); (simp only [seval, push_cast, *]; with_reducible rfl); try exact of_decide_eq_true rfl)
       | ((first | apply z34 | apply z35); (simp only [seval, push_cast, *] <;> fail); try exact of_decide_eq_true rfl)
       | ((first | (apply z24; (simp only [seval, push_cast, *]; with_reducible rfl)) | (apply z36; (simp only [seval, push_cast, *]; (fail_if_success (show _ = some true)); (fail_if_success (show _ = some false)); with_reducible rfl)) | (apply z60; rfl; (simp only [seval, push_cast, *]; (fail_if_success (show _ = some true)); (fail_if_success (show _ = some false)); with_reducible rfl))); all_goals (intro hc; (try simp only [Bool.not_eq_true', Bool.not_eq_false'] at hc); (try (exact absurd hc Bool.noConfusion)); (first | have hq := dle_true hc | have hq := dlt_true hc | have hq := dle_false hc | have hq := dlt_false hc | skip); (try (exfalso; simp only [decide_eq_true_eq, decide_eq_false_iff_not] at hc; first | omega | (have := hk.out; omega)))))
       | ((first | apply z40 | apply z41 | (apply z42; (simp only [seval, push_cast, *]; with_reducible rfl))); (simp only [seval, push_cast, *]; with_reducible rfl); all_goals (first | (simp only [seval, push_cast, *] <;> fail) | (simp only [seval, push_cast] <;> fail) | (rw [frz_pure rfl] <;> (simp [*] <;> fail))))

end Go.E
