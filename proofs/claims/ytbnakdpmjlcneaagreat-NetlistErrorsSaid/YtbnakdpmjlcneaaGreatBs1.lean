/- Contracts of the references' base, in E: numbers, names, nodes. Own work. -/
import Derived.Test.YtbnakdpmjlcneaaGreatNl4
import Derived.Test.YtbnakdpmjlcneaaGreatBs0
set_option linter.all false
namespace Go.E
open Go.Proofs
set_option maxRecDepth 100000
set_option maxHeartbeats 4000000

theorem or19 {k : Nat} (h : k < 19) : k = 0 ∨ k = 1 ∨ k = 2 ∨ k = 3 ∨ k = 4 ∨ k = 5 ∨ k = 6 ∨ k = 7 ∨ k = 8 ∨ k = 9 ∨ k = 10 ∨ k = 11 ∨ k = 12 ∨ k = 13 ∨ k = 14 ∨ k = 15 ∨ k = 16 ∨ k = 17 ∨ k = 18 := by omega
theorem argC0 : argC 0 = 0 := rfl
theorem argC1 : argC 1 = 0 := rfl
theorem argC2 : argC 2 = 1 := rfl
theorem argC3 : argC 3 = 2 := rfl
theorem argC4 : argC 4 = 2 := rfl
theorem argC5 : argC 5 = 2 := rfl
theorem argC6 : argC 6 = 2 := rfl
theorem argC7 : argC 7 = 2 := rfl
theorem argC8 : argC 8 = 2 := rfl
theorem argC9 : argC 9 = 2 := rfl
theorem argC10 : argC 10 = 2 := rfl
theorem argC11 : argC 11 = 2 := rfl
theorem argC12 : argC 12 = 3 := rfl
theorem argC13 : argC 13 = 2 := rfl
theorem argC14 : argC 14 = 1 := rfl
theorem argC15 : argC 15 = 1 := rfl
theorem argC16 : argC 16 = 1 := rfl
theorem argC17 : argC 17 = 2 := rfl
theorem argC18 : argC 18 = 2 := rfl
attribute [push_cast] argC0 argC1 argC2 argC3 argC4 argC5 argC6 argC7 argC8 argC9 argC10 argC11 argC12 argC13 argC14 argC15 argC16 argC17 argC18
theorem bs_argCount0 (bs : List Nat) (H : Heap) (k : Nat) (n : Int) (h : k < 19) (hn : n = (k : Int)) : callw X bs 198 [.int .i64 n] H = some (.int .i64 (argC k : Nat), H) := by
  refine call_at (rs := [.tmp 2]) (N := 14) (fn := Tryz.f198) xk198 xf198 rfl rfl rfl (by simp only [seval, push_cast, List.map_cons, List.map_nil, V.norm, norm1]; rfl) ?_
  rcases or19 h with rfl | rfl | rfl | rfl | rfl | rfl | rfl | rfl | rfl | rfl | rfl | rfl | rfl | rfl | rfl | rfl | rfl | rfl | rfl
  all_goals clear h
  repeat' first
   | apply z1 | apply z2
   | apply z3 | apply z4 | apply z5 | apply z6 | apply z7 | apply z8 | apply z9 | apply z10 | apply z11 | apply z12 | apply z13 | apply z14 | apply z15 | apply z18 | apply z19 | apply z20 | apply z21 | apply z22 | apply z23 | (apply z16; rfl) | (apply z17; decide)
   | ((first | apply z30 | apply z31 | ((first | apply z32 | apply z33); (simp only [seval, push_cast, *] <;> fail))); (simp only [seval, push_cast, *]; with_reducible rfl); try exact of_decide_eq_true rfl)
   | ((first | apply z34 | apply z35); (simp only [seval, push_cast, *] <;> fail); try exact of_decide_eq_true rfl)
   | ((first | (apply z24; (simp only [seval, push_cast, *]; with_reducible rfl)) | (apply z36; (simp only [seval, push_cast, *]; (fail_if_success (show _ = some true)); (fail_if_success (show _ = some false)); with_reducible rfl))); all_goals (intro hc; (try simp only [Bool.not_eq_true', Bool.not_eq_false'] at hc); (try (exact absurd hc Bool.noConfusion)); (first | have hq := dle_true hc | have hq := dlt_true hc | have hq := dle_false hc | have hq := dlt_false hc | skip); (try (exfalso; simp only [decide_eq_true_eq, decide_eq_false_iff_not] at hc; first | omega | (have := hk.out; omega)))))
   | ((first | apply z40 | apply z41 | (apply z42; (simp only [seval, push_cast, *]; with_reducible rfl))); (simp only [seval, push_cast, *]; with_reducible rfl); all_goals (first | (simp only [seval, push_cast, *] <;> fail) | (simp only [seval, push_cast] <;> fail) | (rw [frz_pure rfl] <;> (simp [*] <;> fail))))

end Go.E
/- Contracts of the references' base, in E: nodes. Own work. -/
namespace Go.E
open Go.Proofs
set_option maxRecDepth 100000
set_option maxHeartbeats 4000000

theorem bs_widths (bs : List Nat) (H : Heap) (x : Node) (nodes : List Node) (hl : x.args.length ≤ 1000000) (hargs : ∀ n ∈ x.args, 0 ≤ n ∧ n < nodes.length) :
    ∀ i ρ H', i ≤ x.args.length → (∃ ws, ws = widthsOf nodes (x.args.take i) ∧ H' = H ++ [.cells [.int .i64 x.op, .int .i64 x.width, .list (x.args.map (.int .i64)), .int .i64 x.value], .tok ws.length] ∧ ρ 0 = .list (nodes.map encNode) ∧ ρ 3 = .ptr H.length 0 ∧ ρ 5 = .tl (H.length + 1) (ws.map (.int .i64)) ∧ ρ 6 = .int .i64 i) →
      Lp X ⟨133, bs⟩ (loopAt Tryz.f199 0) ρ H' fun ex ρ' H' => H' = H ++ [.cells [.int .i64 x.op, .int .i64 x.width, .list (x.args.map (.int .i64)), .int .i64 x.value], .tok x.args.length] ∧ ex = .exit 0 ∧ ρ' 5 = .tl (H.length + 1) ((widthsOf nodes x.args).map (.int .i64)) := by
  refine loop_up ?_ ?_
  · rintro i ρ H' hi ⟨ws, hws, rfl, h0, h3, h5, h6⟩
    have hget : x.args[i]? = some x.args[i] := by simp [hi]
    have hm := hargs x.args[i] (List.getElem_mem hi)
    have htk : x.args.take (i + 1) = x.args.take i ++ [x.args[i]] := by rw [List.take_add_one, hget]; rfl
    generalize x.args[i] = n at hget hm htk
    obtain ⟨m, rfl⟩ : ∃ m : Nat, n = m := ⟨n.toNat, by omega⟩
    have hlt : m < nodes.length := by omega
    have hget2 : nodes[m]? = some nodes[m] := by simp [hlt]
    have hsn := widthsOf_snoc nodes (x.args.take i) m nodes[m] (by simp)
    generalize nodes[m] = y at hget2 hsn
    have hlen : ws.length = i := by rw [hws]; simp [widthsOf]; omega
    have hroom := room8 ws.length (by omega)
    have hw := add1 i x.args.length hi hl
    rw [← hws, ← htk] at hsn
    replace hsn : Kp (widthsOf nodes (x.args.take (i + 1)) = ws ++ [y.width]) := ⟨hsn⟩
    clear htk hm hws hlen hargs
    conv => arg 3; whnf
    repeat' first
     | apply z1 | apply z2
     | (apply z50 (id := 8) (ord := [0, 1, 2, 3, 4, 5, 6]) <;> first | kernel_rfl | skip)
     | (apply z50 (id := 15) (ord := [0, 1, 2, 3, 4, 5, 6, 7, 8, 9, 10, 11, 12, 13, 14]) <;> first | kernel_rfl | skip)
     | (apply z50 (id := 19) (ord := [0, 1, 2, 3, 4, 5, 6, 7, 8, 9, 10, 11, 12]) <;> first | kernel_rfl | skip)
     | (apply z50 (id := 21) (ord := [0, 1, 2, 3, 4, 5, 6, 7, 8, 9, 10, 11, 12, 13, 14, 15, 16, 17, 18, 19, 20]) <;> first | kernel_rfl | skip)
     | (apply z50 (id := 23) (ord := [0, 1, 2, 3, 4, 5, 6, 7, 8, 9, 10]) <;> first | kernel_rfl | skip)
     | (apply z50 (id := 25) (ord := [0, 1, 2, 3, 4, 5, 6, 7, 8, 9]) <;> first | kernel_rfl | skip)
     | (apply z50 (id := 28) (ord := [0, 1, 2, 3, 4, 5, 6]) <;> first | kernel_rfl | skip)
     | (apply z50 (id := 29) (ord := [0, 1, 2, 3, 4, 5, 6]) <;> first | kernel_rfl | skip)
     | apply z52
     | (apply chkK_intro; (repeat ((first | (apply zc1; rfl) | (apply zc2; rfl) | (apply zc3; rfl; exact fun _ _ _ _ => rfl)); rfl; rfl; (first | rfl | (simp only [seval, push_cast, *] <;> fail)))); exact chk_nil)
     | ((first | (apply z54; rfl) | (apply z55; rfl) | ((first | (apply z56; rfl) | (apply z57; rfl)); (simp only [seval, push_cast, *] <;> fail))); (simp only [seval, push_cast, *]; with_reducible rfl); try exact of_decide_eq_true rfl)
     | ((first | (apply z58; rfl) | (apply z59; rfl)); (simp only [seval, push_cast, *] <;> fail); try exact of_decide_eq_true rfl)
     | apply z3 | apply z4 | apply z5 | apply z6 | apply z7 | apply z8 | apply z9 | apply z10 | apply z11 | apply z12 | apply z13 | apply z14 | apply z15 | apply z18 | apply z19 | apply z20 | apply z21 | apply z22 | apply z23 | (apply z16; rfl) | (apply z17; decide)
     | ((first | apply z30 | apply z31 | ((first | apply z32 | apply z33); (simp only [seval, push_cast, *] <;> fail))); (simp only [seval, push_cast, *]; with_reducible rfl); try exact of_decide_eq_true rfl)
     | ((first | apply z34 | apply z35); (simp only [seval, push_cast, *] <;> fail); try exact of_decide_eq_true rfl)
     | ((first | (apply z24; (simp only [seval, push_cast, *]; with_reducible rfl)) | (apply z36; (simp only [seval, push_cast, *]; (fail_if_success (show _ = some true)); (fail_if_success (show _ = some false)); with_reducible rfl)) | (apply z60; rfl; (simp only [seval, push_cast, *]; (fail_if_success (show _ = some true)); (fail_if_success (show _ = some false)); with_reducible rfl))); all_goals (intro hc; (try simp only [Bool.not_eq_true', Bool.not_eq_false'] at hc); (try (exact absurd hc Bool.noConfusion)); (first | have hq := dle_true hc | have hq := dlt_true hc | have hq := dle_false hc | have hq := dlt_false hc | skip); (try (exfalso; simp only [decide_eq_true_eq, decide_eq_false_iff_not] at hc; first | omega | (have := hk.out; omega)))))
     | ((first | apply z40 | apply z41 | (apply z42; (simp only [seval, push_cast, *]; with_reducible rfl))); (simp only [seval, push_cast, *]; with_reducible rfl); all_goals (first | (simp only [seval, push_cast, *] <;> fail) | (simp only [seval, push_cast] <;> fail) | (rw [frz_pure rfl] <;> (simp [*] <;> fail))))
    exact ⟨ws ++ [y.width], hsn.out.symm, by simp, by (first | (simp only [seval, push_cast, *]; done) | (simp only [seval, push_cast, *]; rfl)), by (first | (simp only [seval, push_cast, *]; done) | (simp only [seval, push_cast, *]; rfl)), by simp [push_cast], by (first | (simp only [seval, push_cast, *]; done) | (simp only [seval, push_cast, *]; rfl))⟩
  · rintro ρ H' ⟨ws, hws, rfl, h0, h3, h5, h6⟩
    rw [List.take_length] at hws
    have hlen : ws.length = x.args.length := by rw [hws]; simp [widthsOf]
    replace hws : Kp (ws = widthsOf nodes x.args) := ⟨hws⟩
    replace hlen : Kp (ws.length = x.args.length) := ⟨hlen⟩
    clear hargs
    conv => arg 3; whnf
    repeat' first
     | apply z1 | apply z2
     | (apply z50 (id := 8) (ord := [0, 1, 2, 3, 4, 5, 6]) <;> first | kernel_rfl | skip)
     | (apply z50 (id := 15) (ord := [0, 1, 2, 3, 4, 5, 6, 7, 8, 9, 10, 11, 12, 13, 14]) <;> first | kernel_rfl | skip)
     | (apply z50 (id := 19) (ord := [0, 1, 2, 3, 4, 5, 6, 7, 8, 9, 10, 11, 12]) <;> first | kernel_rfl | skip)
     | (apply z50 (id := 21) (ord := [0, 1, 2, 3, 4, 5, 6, 7, 8, 9, 10, 11, 12, 13, 14, 15, 16, 17, 18, 19, 20]) <;> first | kernel_rfl | skip)
     | (apply z50 (id := 23) (ord := [0, 1, 2, 3, 4, 5, 6, 7, 8, 9, 10]) <;> first | kernel_rfl | skip)
     | (apply z50 (id := 25) (ord := [0, 1, 2, 3, 4, 5, 6, 7, 8, 9]) <;> first | kernel_rfl | skip)
     | (apply z50 (id := 28) (ord := [0, 1, 2, 3, 4, 5, 6]) <;> first | kernel_rfl | skip)
     | (apply z50 (id := 29) (ord := [0, 1, 2, 3, 4, 5, 6]) <;> first | kernel_rfl | skip)
     | apply z52
     | (apply chkK_intro; (repeat ((first | (apply zc1; rfl) | (apply zc2; rfl) | (apply zc3; rfl; exact fun _ _ _ _ => rfl)); rfl; rfl; (first | rfl | (simp only [seval, push_cast, *] <;> fail)))); exact chk_nil)
     | ((first | (apply z54; rfl) | (apply z55; rfl) | ((first | (apply z56; rfl) | (apply z57; rfl)); (simp only [seval, push_cast, *] <;> fail))); (simp only [seval, push_cast, *]; with_reducible rfl); try exact of_decide_eq_true rfl)
     | ((first | (apply z58; rfl) | (apply z59; rfl)); (simp only [seval, push_cast, *] <;> fail); try exact of_decide_eq_true rfl)
     | apply z3 | apply z4 | apply z5 | apply z6 | apply z7 | apply z8 | apply z9 | apply z10 | apply z11 | apply z12 | apply z13 | apply z14 | apply z15 | apply z18 | apply z19 | apply z20 | apply z21 | apply z22 | apply z23 | (apply z16; rfl) | (apply z17; decide)
     | ((first | apply z30 | apply z31 | ((first | apply z32 | apply z33); (simp only [seval, push_cast, *] <;> fail))); (simp only [seval, push_cast, *]; with_reducible rfl); try exact of_decide_eq_true rfl)
     | ((first | apply z34 | apply z35); (simp only [seval, push_cast, *] <;> fail); try exact of_decide_eq_true rfl)
     | ((first | (apply z24; (simp only [seval, push_cast, *]; with_reducible rfl)) | (apply z36; (simp only [seval, push_cast, *]; (fail_if_success (show _ = some true)); (fail_if_success (show _ = some false)); with_reducible rfl)) | (apply z60; rfl; (simp only [seval, push_cast, *]; (fail_if_success (show _ = some true)); (fail_if_success (show _ = some false)); with_reducible rfl))); all_goals (intro hc; (try simp only [Bool.not_eq_true', Bool.not_eq_false'] at hc); (try (exact absurd hc Bool.noConfusion)); (first | have hq := dle_true hc | have hq := dlt_true hc | have hq := dle_false hc | have hq := dlt_false hc | skip); (try (exfalso; simp only [decide_eq_true_eq, decide_eq_false_iff_not] at hc; first | omega | (have := hk.out; omega)))))
     | ((first | apply z40 | apply z41 | (apply z42; (simp only [seval, push_cast, *]; with_reducible rfl))); (simp only [seval, push_cast, *]; with_reducible rfl); all_goals (first | (simp only [seval, push_cast, *] <;> fail) | (simp only [seval, push_cast] <;> fail) | (rw [frz_pure rfl] <;> (simp [*] <;> fail))))
    exact ⟨by rw [hlen.out], rfl, by rw [← hws.out]; (first | (simp only [seval, push_cast, *]; done) | (simp only [seval, push_cast, *]; rfl))⟩

theorem len1 {l : List Int} (h : l.length = 1) : ∃ a, l = [a] := by match l, h with | [a], _ => exact ⟨a, rfl⟩
theorem len2 {l : List Int} (h : l.length = 2) : ∃ a b, l = [a, b] := by match l, h with | [a, b], _ => exact ⟨a, b, rfl⟩
theorem len3 {l : List Int} (h : l.length = 3) : ∃ a b c, l = [a, b, c] := by match l, h with | [a, b, c], _ => exact ⟨a, b, c, rfl⟩
theorem bs_widthsFit (bs : List Nat) (H : Heap) (x : Node) (nodes : List Node) (k : Nat) (hk : x.op = (k : Int)) (hk19 : k < 19) (hk2 : 2 ≤ k) (ha : x.args.length = argC k) (hargs : ∀ n ∈ x.args, 0 ≤ n ∧ n < nodes.length) : callw X bs 199 [.list (nodes.map encNode), encNode x] H = some (.bool (fitsS k x.width (widthsOf nodes x.args) x.value), H) := by
  refine call_at (rs := [.tmp 4]) (N := 133) (fn := Tryz.f199) xk199 xf199 rfl rfl rfl (by simp only [seval, push_cast, List.map_cons, List.map_nil, V.norm, norm1]; rfl) ?_
  have hloop := fun bs ρ => bs_widths bs H x nodes (by rw [ha]; have := argC_le k; omega) hargs 0 ρ
  have hwl : (widthsOf nodes x.args).length = argC k := by simpa [widthsOf] using ha
  generalize hg : widthsOf nodes x.args = ws at hwl
  rw [hg] at hloop
  rw [hk] at hloop
  clear hargs ha
  rcases or19 hk19 with rfl | rfl | rfl | rfl | rfl | rfl | rfl | rfl | rfl | rfl | rfl | rfl | rfl | rfl | rfl | rfl | rfl | rfl | rfl
  all_goals try (exfalso; omega)
  all_goals clear hk19 hk2
  repeat' first
   | apply z1 | apply z2
   | (apply z50 (id := 8) (ord := [0, 1, 2, 3, 4, 5, 6]) <;> first | kernel_rfl | skip)
   | (apply z50 (id := 15) (ord := [0, 1, 2, 3, 4, 5, 6, 7, 8, 9, 10, 11, 12, 13, 14]) <;> first | kernel_rfl | skip)
   | (apply z50 (id := 19) (ord := [0, 1, 2, 3, 4, 5, 6, 7, 8, 9, 10, 11, 12]) <;> first | kernel_rfl | skip)
   | (apply z50 (id := 21) (ord := [0, 1, 2, 3, 4, 5, 6, 7, 8, 9, 10, 11, 12, 13, 14, 15, 16, 17, 18, 19, 20]) <;> first | kernel_rfl | skip)
   | (apply z50 (id := 23) (ord := [0, 1, 2, 3, 4, 5, 6, 7, 8, 9, 10]) <;> first | kernel_rfl | skip)
   | (apply z50 (id := 25) (ord := [0, 1, 2, 3, 4, 5, 6, 7, 8, 9]) <;> first | kernel_rfl | skip)
   | (apply z50 (id := 28) (ord := [0, 1, 2, 3, 4, 5, 6]) <;> first | kernel_rfl | skip)
   | (apply z50 (id := 29) (ord := [0, 1, 2, 3, 4, 5, 6]) <;> first | kernel_rfl | skip)
   | apply z52
   | (apply chkK_intro; (repeat ((first | (apply zc1; rfl) | (apply zc2; rfl) | (apply zc3; rfl; exact fun _ _ _ _ => rfl)); rfl; rfl; (first | rfl | (simp only [seval, push_cast, *] <;> fail)))); exact chk_nil)
   | ((first | (apply z54; rfl) | (apply z55; rfl) | ((first | (apply z56; rfl) | (apply z57; rfl)); (simp only [seval, push_cast, *] <;> fail))); (simp only [seval, push_cast, *]; with_reducible rfl); try exact of_decide_eq_true rfl)
   | ((first | (apply z58; rfl) | (apply z59; rfl)); (simp only [seval, push_cast, *] <;> fail); try exact of_decide_eq_true rfl)
   | apply z3 | apply z4 | apply z5 | apply z6 | apply z7 | apply z8 | apply z9 | apply z10 | apply z11 | apply z12 | apply z13 | apply z14 | apply z15 | apply z18 | apply z19 | apply z20 | apply z21 | apply z22 | apply z23 | (apply z16; rfl) | (apply z17; decide)
   | ((first | apply z30 | apply z31 | ((first | apply z32 | apply z33); (simp only [seval, push_cast, *] <;> fail))); (simp only [seval, push_cast, *]; with_reducible rfl); try exact of_decide_eq_true rfl)
   | ((first | apply z34 | apply z35); (simp only [seval, push_cast, *] <;> fail); try exact of_decide_eq_true rfl)
   | ((first | (apply z24; (simp only [seval, push_cast, *]; with_reducible rfl)) | (apply z36; (simp only [seval, push_cast, *]; (fail_if_success (show _ = some true)); (fail_if_success (show _ = some false)); with_reducible rfl)) | (apply z60; rfl; (simp only [seval, push_cast, *]; (fail_if_success (show _ = some true)); (fail_if_success (show _ = some false)); with_reducible rfl))); all_goals (intro hc; (try simp only [Bool.not_eq_true', Bool.not_eq_false'] at hc); (try (exact absurd hc Bool.noConfusion)); (first | have hq := dle_true hc | have hq := dlt_true hc | have hq := dle_false hc | have hq := dlt_false hc | skip); (try (exfalso; simp only [decide_eq_true_eq, decide_eq_false_iff_not] at hc; first | omega | (have := hk.out; omega)))))
   | ((first | apply z40 | apply z41 | (apply z42; (simp only [seval, push_cast, *]; with_reducible rfl))); (simp only [seval, push_cast, *]; with_reducible rfl); all_goals (first | (simp only [seval, push_cast, *] <;> fail) | (simp only [seval, push_cast] <;> fail) | (rw [frz_pure rfl] <;> (simp [*] <;> fail))))
  all_goals refine lp_then (lp_any (c := loopAt Tryz.f199 0) rfl (hloop _ _ _ (by omega) ⟨[], rfl, rfl, by (first | (simp only [seval, push_cast, *]; done) | (simp only [seval, push_cast, *]; rfl)), by (first | (simp only [seval, push_cast, *]; done) | (simp only [seval, push_cast, *]; rfl)), by (first | (simp only [seval, push_cast, *]; done) | (simp only [seval, push_cast, *]; rfl)), by (first | (simp only [seval, push_cast, *]; done) | (simp only [seval, push_cast, *]; rfl))⟩)) ?_
  all_goals clear hloop
  all_goals rintro ex ρ' H' ⟨rfl, rfl, h5⟩ hf
  all_goals have f3 := hf 3 rfl
  all_goals simp only [seval, push_cast] at f3
  all_goals clear hf hg
  all_goals first | (obtain ⟨w0, rfl⟩ := len1 hwl) | (obtain ⟨w0, w1, rfl⟩ := len2 hwl) | (obtain ⟨w0, w1, w2, rfl⟩ := len3 hwl)
  all_goals clear hwl
  all_goals simp only [fitsS, at0, List.getD_cons_zero, List.getD_cons_succ, List.any_cons, List.any_nil, Bool.or_false]
  all_goals try clear hk
  repeat' first
   | apply z1 | apply z2
   | (apply z50 (id := 8) (ord := [0, 1, 2, 3, 4, 5, 6]) <;> first | kernel_rfl | skip)
   | (apply z50 (id := 15) (ord := [0, 1, 2, 3, 4, 5, 6, 7, 8, 9, 10, 11, 12, 13, 14]) <;> first | kernel_rfl | skip)
   | (apply z50 (id := 19) (ord := [0, 1, 2, 3, 4, 5, 6, 7, 8, 9, 10, 11, 12]) <;> first | kernel_rfl | skip)
   | (apply z50 (id := 21) (ord := [0, 1, 2, 3, 4, 5, 6, 7, 8, 9, 10, 11, 12, 13, 14, 15, 16, 17, 18, 19, 20]) <;> first | kernel_rfl | skip)
   | (apply z50 (id := 23) (ord := [0, 1, 2, 3, 4, 5, 6, 7, 8, 9, 10]) <;> first | kernel_rfl | skip)
   | (apply z50 (id := 25) (ord := [0, 1, 2, 3, 4, 5, 6, 7, 8, 9]) <;> first | kernel_rfl | skip)
   | (apply z50 (id := 28) (ord := [0, 1, 2, 3, 4, 5, 6]) <;> first | kernel_rfl | skip)
   | (apply z50 (id := 29) (ord := [0, 1, 2, 3, 4, 5, 6]) <;> first | kernel_rfl | skip)
   | apply z52
   | (apply chkK_intro; (repeat ((first | (apply zc1; rfl) | (apply zc2; rfl) | (apply zc3; rfl; exact fun _ _ _ _ => rfl)); rfl; rfl; (first | rfl | (simp only [seval, push_cast, *] <;> fail)))); exact chk_nil)
   | ((first | (apply z54; rfl) | (apply z55; rfl) | ((first | (apply z56; rfl) | (apply z57; rfl)); (simp only [seval, push_cast, *] <;> fail))); (simp only [seval, push_cast, *]; with_reducible rfl); try exact of_decide_eq_true rfl)
   | ((first | (apply z58; rfl) | (apply z59; rfl)); (simp only [seval, push_cast, *] <;> fail); try exact of_decide_eq_true rfl)
   | apply z3 | apply z4 | apply z5 | apply z6 | apply z7 | apply z8 | apply z9 | apply z10 | apply z11 | apply z12 | apply z13 | apply z14 | apply z15 | apply z18 | apply z19 | apply z20 | apply z21 | apply z22 | apply z23 | (apply z16; rfl) | (apply z17; decide)
   | ((first | apply z30 | apply z31 | ((first | apply z32 | apply z33); (simp only [seval, push_cast, *] <;> fail))); (simp only [seval, push_cast, *]; with_reducible rfl); try exact of_decide_eq_true rfl)
   | ((first | apply z34 | apply z35); (simp only [seval, push_cast, *] <;> fail); try exact of_decide_eq_true rfl)
   | ((first | (apply z24; (simp only [seval, push_cast, *]; with_reducible rfl)) | (apply z36; (simp only [seval, push_cast, *]; (fail_if_success (show _ = some true)); (fail_if_success (show _ = some false)); with_reducible rfl)) | (apply z60; rfl; (simp only [seval, push_cast, *]; (fail_if_success (show _ = some true)); (fail_if_success (show _ = some false)); with_reducible rfl))); all_goals (intro hc; (try simp only [Bool.not_eq_true', Bool.not_eq_false'] at hc); (try (exact absurd hc Bool.noConfusion)); (first | have hq := dle_true hc | have hq := dlt_true hc | have hq := dle_false hc | have hq := dlt_false hc | skip); (try (exfalso; simp only [decide_eq_true_eq, decide_eq_false_iff_not] at hc; first | omega | (have := hk.out; omega)))))
   | ((first | apply z40 | apply z41 | (apply z42; (simp only [seval, push_cast, *]; with_reducible rfl))); (simp only [seval, push_cast, *]; with_reducible rfl); all_goals (first | (simp only [seval, push_cast, *] <;> fail) | (simp only [seval, push_cast] <;> fail) | (rw [frz_pure rfl] <;> (simp [*] <;> fail))))

end Go.E
