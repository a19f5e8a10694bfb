/- Rows that are filled, copies. Own work. -/
import Derived.Test.YtbnakdpmjlcneaaGreatBs4
import Derived.Test.YtbnakdpmjlcneaaGreatBs9
set_option linter.all false
namespace Go.E
section
variable {α : Type}
def fill (f : α → V) (z : V) (l : List α) (i : Nat) : List V := (l.take i).map f ++ List.replicate (l.length - i) z
theorem fill_len (f : α → V) (z : V) (l : List α) (i : Nat) (h : i ≤ l.length) : (fill f z l i).length = l.length := by simp [fill]; omega
theorem fill_get (f : α → V) (z : V) (l : List α) (i : Nat) (h : i < l.length) : (fill f z l i)[i]? = some z := by
  unfold fill
  rw [List.getElem?_append_right (by simp; omega)]
  simp [List.getElem?_replicate]; omega
theorem fill_set (f : α → V) (z : V) (l : List α) (i : Nat) (x : α) (h : l[i]? = some x) : (fill f z l i).set i (f x) = fill f z l (i + 1) := by
  obtain ⟨hlt, rfl⟩ := List.getElem?_eq_some_iff.1 h
  unfold fill
  rw [List.set_append_right _ _ (by simp; omega), List.take_add_one]
  have h1 : i - ((l.take i).map f).length = 0 := by simp; omega
  have h2 : l.length - i = (l.length - (i + 1)) + 1 := by omega
  rw [h1, h2, List.replicate_succ]
  simp only [List.set_cons_zero, List.getElem?_eq_getElem hlt, Option.toList_some, List.map_append, List.map_cons, List.map_nil, List.append_assoc, List.singleton_append]
theorem fill_get1 (f : α → V) (z : V) (l : List α) (i : Nat) (x : α) (h : l[i]? = some x) : (fill f z l (i + 1))[i]? = some (f x) := by
  obtain ⟨hlt, _⟩ := List.getElem?_eq_some_iff.1 h
  rw [← fill_set f z l i x h, List.getElem?_set_self (by rw [fill_len f z l i (by omega)]; omega)]
theorem fill_set1 (f : α → V) (z : V) (l : List α) (i : Nat) (x : α) (h : l[i]? = some x) : (fill f z l (i + 1)).set i (f x) = fill f z l (i + 1) := by
  rw [← fill_set f z l i x h, List.set_set]
theorem fill_end (f : α → V) (z : V) (l : List α) : fill f z l l.length = l.map f := by simp [fill]
theorem fill_0 (f : α → V) (z : V) (l : List α) : fill f z l 0 = List.replicate l.length z := by simp [fill]
theorem set_get {l : List V} {i : Nat} {v z : V} (h : l[i]? = some z) : (l.set i v)[i]? = some v := by rw [List.getElem?_set_self (List.getElem?_eq_some_iff.1 h).1]
end
theorem te_int (k : IntKind) (l : List Int) : List.mapM (takeElem 1) (l.map (V.int k)) = some (l.map (V.int k)) := takeElems_map fun _ => by simp [takeElem, V.norm, norm1, V.cells, V.pure, V.isCell]
theorem te_encPort (l : List Port) : List.mapM (takeElem 2) (l.map encPort) = some (l.map encPort) := takeElems_map fun _ => by simp [takeElem, encPort, V.norm, norm1, V.cells, V.pure, V.pureL, V.isCell]
theorem te_encReg (l : List Reg) : List.mapM (takeElem 5) (l.map encReg) = some (l.map encReg) := takeElems_map fun _ => by simp [takeElem, encReg, V.norm, norm1, V.cells, V.pure, V.pureL, V.isCell]
theorem te_encOutp (l : List Outp) : List.mapM (takeElem 2) (l.map encOutp) = some (l.map encOutp) := takeElems_map fun _ => by simp [takeElem, encOutp, V.norm, norm1, V.cells, V.pure, V.pureL, V.isCell]
attribute [push_cast] te_int te_encPort te_encReg te_encOutp likeV List.headD_cons
theorem take_step {α : Type} {a b : List α} {i : Nat} {x y : α} (ha : a[i]? = some x) (hb : b[i]? = some y) (h : a.take i = b.take i) : (x = y → a.take (i + 1) = b.take (i + 1)) ∧ (x ≠ y → a ≠ b) := by
  refine ⟨fun e => ?_, fun e f => ?_⟩
  · rw [List.take_add_one, List.take_add_one, ha, hb, h, e]
  · rw [f, hb] at ha
    exact e (Option.some.inj ha).symm
theorem take_map {α β : Type} (f : α → β) (l : List α) : List.take l.length (l.map f) = l.map f := by rw [← List.length_map (f := f), List.take_length]
attribute [push_cast] take_map implies_true
theorem room_of {n k : Nat} (h : n ≤ 1000000) (hk : k ≤ 1000) : n * k ≤ roomB := by
  have : n * k ≤ 1000000 * 1000 := Nat.mul_le_mul h hk
  unfold roomB; omega
theorem room_int {n : Nat} (h : n ≤ 1000000) : (n : Int) ≤ (roomB : Nat) := by unfold roomB; omega
end Go.E
/- Contracts of the references' base, in E: copies, comparisons. Own work. -/
namespace Go.E
open Go.Proofs
set_option maxRecDepth 100000
set_option maxHeartbeats 4000000

theorem bs_copyInts (bs : List Nat) (H : Heap) (l : List Int) (hl : l.length ≤ 1000000) : callw X bs 20 [.list (l.map (.int .i64))] H = some (.list (l.map (.int .i64)), H) := by
  refine call_at (rs := [.tmp 2]) (N := 6) (fn := Tryz.f20) xk20 xf20 rfl rfl rfl (by simp only [seval, push_cast, List.map_cons, List.map_nil, V.norm, norm1]; rfl) ?_
  have h := room_of (k := 8) hl (by omega)
  repeat' first
   | apply z1 | apply z2
   | apply z3 | apply z4 | apply z5 | apply z6 | apply z7 | apply z8 | apply z9 | apply z10 | apply z11 | apply z12 | apply z13 | apply z14 | apply z15 | apply z18 | apply z19 | apply z20 | apply z21 | apply z22 | apply z23 | (apply z16; rfl) | (apply z17; decide)
   | ((first | apply z30 | apply z31 | ((first | apply z32 | apply z33); (simp only [seval, push_cast, *] <;> fail))); (simp only [seval, push_cast, *]; with_reducible rfl); try exact of_decide_eq_true rfl)
   | ((first | apply z34 | apply z35); (simp only [seval, push_cast, *] <;> fail); try exact of_decide_eq_true rfl)
   | ((first | (apply z24; (simp only [seval, push_cast, *]; with_reducible rfl)) | (apply z36; (simp only [seval, push_cast, *]; (fail_if_success (show _ = some true)); (fail_if_success (show _ = some false)); with_reducible rfl))); all_goals (intro hc; (try simp only [Bool.not_eq_true', Bool.not_eq_false'] at hc); (try (exact absurd hc Bool.noConfusion)); (first | have hq := dle_true hc | have hq := dlt_true hc | have hq := dle_false hc | have hq := dlt_false hc | skip); (try (exfalso; simp only [decide_eq_true_eq, decide_eq_false_iff_not] at hc; first | omega | (have := hk.out; omega)))))
   | ((first | apply z40 | apply z41 | (apply z42; (simp only [seval, push_cast, *]; with_reducible rfl))); (simp only [seval, push_cast, *]; with_reducible rfl); all_goals (first | (simp only [seval, push_cast, *] <;> fail) | (simp only [seval, push_cast] <;> fail) | (rw [frz_pure rfl] <;> (simp [*] <;> fail))))

theorem bs_copyPorts (bs : List Nat) (H : Heap) (l : List Port) (hl : l.length ≤ 1000000) : callw X bs 77 [.list (l.map encPort)] H = some (.list (l.map encPort), H) := by
  refine call_at (rs := [.tmp 2]) (N := 6) (fn := Tryz.f77) xk77 xf77 rfl rfl rfl (by simp only [seval, push_cast, List.map_cons, List.map_nil, V.norm, norm1]; rfl) ?_
  have h := room_of (k := 24) hl (by omega)
  repeat' first
   | apply z1 | apply z2
   | apply z3 | apply z4 | apply z5 | apply z6 | apply z7 | apply z8 | apply z9 | apply z10 | apply z11 | apply z12 | apply z13 | apply z14 | apply z15 | apply z18 | apply z19 | apply z20 | apply z21 | apply z22 | apply z23 | (apply z16; rfl) | (apply z17; decide)
   | ((first | apply z30 | apply z31 | ((first | apply z32 | apply z33); (simp only [seval, push_cast, *] <;> fail))); (simp only [seval, push_cast, *]; with_reducible rfl); try exact of_decide_eq_true rfl)
   | ((first | apply z34 | apply z35); (simp only [seval, push_cast, *] <;> fail); try exact of_decide_eq_true rfl)
   | ((first | (apply z24; (simp only [seval, push_cast, *]; with_reducible rfl)) | (apply z36; (simp only [seval, push_cast, *]; (fail_if_success (show _ = some true)); (fail_if_success (show _ = some false)); with_reducible rfl))); all_goals (intro hc; (try simp only [Bool.not_eq_true', Bool.not_eq_false'] at hc); (try (exact absurd hc Bool.noConfusion)); (first | have hq := dle_true hc | have hq := dlt_true hc | have hq := dle_false hc | have hq := dlt_false hc | skip); (try (exfalso; simp only [decide_eq_true_eq, decide_eq_false_iff_not] at hc; first | omega | (have := hk.out; omega)))))
   | ((first | apply z40 | apply z41 | (apply z42; (simp only [seval, push_cast, *]; with_reducible rfl))); (simp only [seval, push_cast, *]; with_reducible rfl); all_goals (first | (simp only [seval, push_cast, *] <;> fail) | (simp only [seval, push_cast] <;> fail) | (rw [frz_pure rfl] <;> (simp [*] <;> fail))))

theorem bs_copyOutputs (bs : List Nat) (H : Heap) (l : List Outp) (hl : l.length ≤ 1000000) : callw X bs 79 [.list (l.map encOutp)] H = some (.list (l.map encOutp), H) := by
  refine call_at (rs := [.tmp 2]) (N := 6) (fn := Tryz.f79) xk79 xf79 rfl rfl rfl (by simp only [seval, push_cast, List.map_cons, List.map_nil, V.norm, norm1]; rfl) ?_
  have h := room_of (k := 24) hl (by omega)
  repeat' first
   | apply z1 | apply z2
   | apply z3 | apply z4 | apply z5 | apply z6 | apply z7 | apply z8 | apply z9 | apply z10 | apply z11 | apply z12 | apply z13 | apply z14 | apply z15 | apply z18 | apply z19 | apply z20 | apply z21 | apply z22 | apply z23 | (apply z16; rfl) | (apply z17; decide)
   | ((first | apply z30 | apply z31 | ((first | apply z32 | apply z33); (simp only [seval, push_cast, *] <;> fail))); (simp only [seval, push_cast, *]; with_reducible rfl); try exact of_decide_eq_true rfl)
   | ((first | apply z34 | apply z35); (simp only [seval, push_cast, *] <;> fail); try exact of_decide_eq_true rfl)
   | ((first | (apply z24; (simp only [seval, push_cast, *]; with_reducible rfl)) | (apply z36; (simp only [seval, push_cast, *]; (fail_if_success (show _ = some true)); (fail_if_success (show _ = some false)); with_reducible rfl))); all_goals (intro hc; (try simp only [Bool.not_eq_true', Bool.not_eq_false'] at hc); (try (exact absurd hc Bool.noConfusion)); (first | have hq := dle_true hc | have hq := dlt_true hc | have hq := dle_false hc | have hq := dlt_false hc | skip); (try (exfalso; simp only [decide_eq_true_eq, decide_eq_false_iff_not] at hc; first | omega | (have := hk.out; omega)))))
   | ((first | apply z40 | apply z41 | (apply z42; (simp only [seval, push_cast, *]; with_reducible rfl))); (simp only [seval, push_cast, *]; with_reducible rfl); all_goals (first | (simp only [seval, push_cast, *] <;> fail) | (simp only [seval, push_cast] <;> fail) | (rw [frz_pure rfl] <;> (simp [*] <;> fail))))

theorem bs_netResets (bs : List Nat) (H : Heap) (n : Netl) (hr : n.regs.length ≤ 1000) : callw X bs 17 [encNetl n] H = some (.list (n.regs.map (fun r : Reg => .int .i64 r.init)), H) := by
  refine call_at (rs := [.tmp 2]) (N := 26) (fn := Tryz.f17) xk17 xf17 rfl rfl rfl (by simp only [seval, push_cast, List.map_cons, List.map_nil, V.norm, norm1]; rfl) ?_
  have key : ∀ (t : HObj) (bs : List Nat) i ρ H', i ≤ n.regs.length → (H' = H ++ [.cells (cellsNetl n), t, .arr (fill (fun r : Reg => .int .i64 r.init) (.int .i64 0) n.regs i) 0] ∧ ρ 1 = .ptr H.length 0 ∧ ρ 3 = .ref 1 (H.length + 2) 0 0 n.regs.length ∧ ρ 4 = .int .i64 i) →
      Lp X ⟨26, bs⟩ (loopAt Tryz.f17 0) ρ H' fun ex ρ' H' => H' = H ++ [.cells (cellsNetl n), t, .arr (n.regs.map (fun r : Reg => .int .i64 r.init)) 0] ∧ ρ' 3 = .ref 1 (H.length + 2) 0 0 n.regs.length ∧ ex = .exit 0 := by
    intro t bs
    refine loop_up ?_ ?_
    · rintro i ρ H' hlt ⟨rfl, h1, h3, h4⟩
      have hget : n.regs[i]? = some n.regs[i] := by simp [hlt]
      have hw := add1 i n.regs.length hlt (by omega)
      have hg := fill_get (fun r : Reg => .int .i64 r.init) (.int .i64 0) n.regs i hlt
      have hs := fill_set (fun r : Reg => .int .i64 r.init) (.int .i64 0) n.regs i n.regs[i] hget
      generalize n.regs[i] = p at hget hs
      conv => arg 3; whnf
      repeat' first
       | apply z1 | apply z2
       | apply z3 | apply z4 | apply z5 | apply z6 | apply z7 | apply z8 | apply z9 | apply z10 | apply z11 | apply z12 | apply z13 | apply z14 | apply z15 | apply z18 | apply z19 | apply z20 | apply z21 | apply z22 | apply z23 | (apply z16; rfl) | (apply z17; decide)
       | ((first | apply z30 | apply z31 | ((first | apply z32 | apply z33); (simp only [seval, push_cast, *] <;> fail))); (simp only [seval, push_cast, *]; with_reducible rfl); try exact of_decide_eq_true rfl)
       | ((first | apply z34 | apply z35); (simp only [seval, push_cast, *] <;> fail); try exact of_decide_eq_true rfl)
       | ((first | (apply z24; (simp only [seval, push_cast, *]; with_reducible rfl)) | (apply z36; (simp only [seval, push_cast, *]; (fail_if_success (show _ = some true)); (fail_if_success (show _ = some false)); with_reducible rfl))); all_goals (intro hc; (try simp only [Bool.not_eq_true', Bool.not_eq_false'] at hc); (try (exact absurd hc Bool.noConfusion)); (first | have hq := dle_true hc | have hq := dlt_true hc | have hq := dle_false hc | have hq := dlt_false hc | skip); (try (exfalso; simp only [decide_eq_true_eq, decide_eq_false_iff_not] at hc; first | omega | (have := hk.out; omega)))))
       | ((first | apply z40 | apply z41 | (apply z42; (simp only [seval, push_cast, *]; with_reducible rfl))); (simp only [seval, push_cast, *]; with_reducible rfl); all_goals (first | (simp only [seval, push_cast, *] <;> fail) | (simp only [seval, push_cast] <;> fail) | (rw [frz_pure rfl] <;> (simp [*] <;> fail))))
      exact ⟨by simp only [cellsNetl], by (first | (simp only [seval, push_cast, *]; done) | (simp only [seval, push_cast, *]; rfl)), by (first | (simp only [seval, push_cast, *]; done) | (simp only [seval, push_cast, *]; rfl)), by (first | (simp only [seval, push_cast, *]; done) | (simp only [seval, push_cast, *]; rfl))⟩
    · rintro ρ H' ⟨rfl, h1, h3, h4⟩
      rw [fill_end]
      conv => arg 3; whnf
      repeat' first
       | apply z1 | apply z2
       | apply z3 | apply z4 | apply z5 | apply z6 | apply z7 | apply z8 | apply z9 | apply z10 | apply z11 | apply z12 | apply z13 | apply z14 | apply z15 | apply z18 | apply z19 | apply z20 | apply z21 | apply z22 | apply z23 | (apply z16; rfl) | (apply z17; decide)
       | ((first | apply z30 | apply z31 | ((first | apply z32 | apply z33); (simp only [seval, push_cast, *] <;> fail))); (simp only [seval, push_cast, *]; with_reducible rfl); try exact of_decide_eq_true rfl)
       | ((first | apply z34 | apply z35); (simp only [seval, push_cast, *] <;> fail); try exact of_decide_eq_true rfl)
       | ((first | (apply z24; (simp only [seval, push_cast, *]; with_reducible rfl)) | (apply z36; (simp only [seval, push_cast, *]; (fail_if_success (show _ = some true)); (fail_if_success (show _ = some false)); with_reducible rfl))); all_goals (intro hc; (try simp only [Bool.not_eq_true', Bool.not_eq_false'] at hc); (try (exact absurd hc Bool.noConfusion)); (first | have hq := dle_true hc | have hq := dlt_true hc | have hq := dle_false hc | have hq := dlt_false hc | skip); (try (exfalso; simp only [decide_eq_true_eq, decide_eq_false_iff_not] at hc; first | omega | (have := hk.out; omega)))))
       | ((first | apply z40 | apply z41 | (apply z42; (simp only [seval, push_cast, *]; with_reducible rfl))); (simp only [seval, push_cast, *]; with_reducible rfl); all_goals (first | (simp only [seval, push_cast, *] <;> fail) | (simp only [seval, push_cast] <;> fail) | (rw [frz_pure rfl] <;> (simp [*] <;> fail))))
      exact ⟨by simp only [cellsNetl], by (first | (simp only [seval, push_cast, *]; done) | (simp only [seval, push_cast, *]; rfl)), rfl⟩
  have h1 := room_of (n := n.regs.length) (k := 8) (by omega) (by omega)
  have h2 := room_int (n := n.regs.length) (by omega)
  have h3 := fill_0 (fun r : Reg => .int .i64 r.init) (.int .i64 0) n.regs
  replace h3 : Kp (fill (fun r : Reg => .int .i64 r.init) (.int .i64 0) n.regs 0 = List.replicate n.regs.length (.int .i64 0)) := ⟨h3⟩
  repeat' first
   | apply z1 | apply z2
   | apply z3 | apply z4 | apply z5 | apply z6 | apply z7 | apply z8 | apply z9 | apply z10 | apply z11 | apply z12 | apply z13 | apply z14 | apply z15 | apply z18 | apply z19 | apply z20 | apply z21 | apply z22 | apply z23 | (apply z16; rfl) | (apply z17; decide)
   | ((first | apply z30 | apply z31 | ((first | apply z32 | apply z33); (simp only [seval, push_cast, *] <;> fail))); (simp only [seval, push_cast, *]; with_reducible rfl); try exact of_decide_eq_true rfl)
   | ((first | apply z34 | apply z35); (simp only [seval, push_cast, *] <;> fail); try exact of_decide_eq_true rfl)
   | ((first | (apply z24; (simp only [seval, push_cast, *]; with_reducible rfl)) | (apply z36; (simp only [seval, push_cast, *]; (fail_if_success (show _ = some true)); (fail_if_success (show _ = some false)); with_reducible rfl))); all_goals (intro hc; (try simp only [Bool.not_eq_true', Bool.not_eq_false'] at hc); (try (exact absurd hc Bool.noConfusion)); (first | have hq := dle_true hc | have hq := dlt_true hc | have hq := dle_false hc | have hq := dlt_false hc | skip); (try (exfalso; simp only [decide_eq_true_eq, decide_eq_false_iff_not] at hc; first | omega | (have := hk.out; omega)))))
   | ((first | apply z40 | apply z41 | (apply z42; (simp only [seval, push_cast, *]; with_reducible rfl))); (simp only [seval, push_cast, *]; with_reducible rfl); all_goals (first | (simp only [seval, push_cast, *] <;> fail) | (simp only [seval, push_cast] <;> fail) | (rw [frz_pure rfl] <;> (simp [*] <;> fail))))
  refine lp_then (lp_any (c := loopAt Tryz.f17 0) rfl (key _ _ 0 _ _ (by omega) ⟨by rw [h3.out]; rfl, by (first | (simp only [seval, push_cast, *]; done) | (simp only [seval, push_cast, *]; rfl)), by (first | (simp only [seval, push_cast, *]; done) | (simp only [seval, push_cast, *]; rfl)), by (first | (simp only [seval, push_cast, *]; done) | (simp only [seval, push_cast, *]; rfl))⟩)) ?_
  rintro ex ρ' H' ⟨rfl, f3, rfl⟩ hf
  repeat' first
   | apply z1 | apply z2
   | apply z3 | apply z4 | apply z5 | apply z6 | apply z7 | apply z8 | apply z9 | apply z10 | apply z11 | apply z12 | apply z13 | apply z14 | apply z15 | apply z18 | apply z19 | apply z20 | apply z21 | apply z22 | apply z23 | (apply z16; rfl) | (apply z17; decide)
   | ((first | apply z30 | apply z31 | ((first | apply z32 | apply z33); (simp only [seval, push_cast, *] <;> fail))); (simp only [seval, push_cast, *]; with_reducible rfl); try exact of_decide_eq_true rfl)
   | ((first | apply z34 | apply z35); (simp only [seval, push_cast, *] <;> fail); try exact of_decide_eq_true rfl)
   | ((first | (apply z24; (simp only [seval, push_cast, *]; with_reducible rfl)) | (apply z36; (simp only [seval, push_cast, *]; (fail_if_success (show _ = some true)); (fail_if_success (show _ = some false)); with_reducible rfl))); all_goals (intro hc; (try simp only [Bool.not_eq_true', Bool.not_eq_false'] at hc); (try (exact absurd hc Bool.noConfusion)); (first | have hq := dle_true hc | have hq := dlt_true hc | have hq := dle_false hc | have hq := dlt_false hc | skip); (try (exfalso; simp only [decide_eq_true_eq, decide_eq_false_iff_not] at hc; first | omega | (have := hk.out; omega)))))
   | ((first | apply z40 | apply z41 | (apply z42; (simp only [seval, push_cast, *]; with_reducible rfl))); (simp only [seval, push_cast, *]; with_reducible rfl); all_goals (first | (simp only [seval, push_cast, *] <;> fail) | (simp only [seval, push_cast] <;> fail) | (rw [frz_pure rfl] <;> (simp [*] <;> fail))))

theorem bs_ints (bs : List Nat) (H : Heap) (a b : List Int) (ha : a.length ≤ 1000000) (hb : b.length ≤ 1000000) : callw X bs 16 [.list (a.map (.int .i64)), .list (b.map (.int .i64))] H = some (.bool (decide (a = b)), H) := by
  refine call_at (rs := [.tmp 4]) (N := 26) (fn := Tryz.f16) xk16 xf16 rfl rfl rfl (by simp only [seval, push_cast, List.map_cons, List.map_nil, V.norm, norm1]; rfl) ?_
  rcases Classical.em (a.length = b.length) with hab | hab
  · have key : ∀ (bs : List Nat) i ρ H', i ≤ a.length → (H' = H ∧ ρ 0 = .list (a.map (.int .i64)) ∧ ρ 1 = .list (b.map (.int .i64)) ∧ ρ 5 = .int .i64 i ∧ Kp (a.take i = b.take i)) →
      Lp X ⟨26, bs⟩ (loopAt Tryz.f16 0) ρ H' fun ex ρ' H' => H' = H ∧ ((a = b ∧ ex = .exit 0) ∨ (a ≠ b ∧ ρ' 4 = .bool false ∧ ex = .ret)) := by
      intro bs
      refine loop_up ?_ ?_
      · rintro i ρ H' hlt ⟨rfl, h0, h1, h5, hk⟩
        have hget : a[i]? = some a[i] := by simp [hlt]
        have hgetb : b[i]? = some b[i] := by simp [hab ▸ hlt]
        have hw := add1 i a.length hlt (by omega)
        have hn := take_step hget hgetb hk.out
        generalize a[i] = x at hget hn
        generalize b[i] = y at hgetb hn
        rcases Classical.em (x = y) with hxy | hxy
        · have hk2 := Kp.mk (hn.1 hxy)
          conv => arg 3; whnf
          repeat' first
           | apply z1 | apply z2
           | (apply z50 (id := 6) (ord := [0, 1, 2, 3, 4, 5, 6, 7, 8]) <;> first | kernel_rfl | skip)
           | apply z52
           | (apply chkK_intro; (repeat ((first | (apply zc1; rfl) | (apply zc2; rfl) | (apply zc3; rfl; exact fun _ _ _ _ => rfl)); rfl; rfl; (first | rfl | (simp only [seval, push_cast, *] <;> fail)))); exact chk_nil)
           | ((first | (apply z54; rfl) | (apply z55; rfl) | ((first | (apply z56; rfl) | (apply z57; rfl)); (simp only [seval, push_cast, *] <;> fail))); (simp only [seval, push_cast, *]; with_reducible rfl); try exact of_decide_eq_true rfl)
           | ((first | (apply z58; rfl) | (apply z59; rfl)); (simp only [seval, push_cast, *] <;> fail); try exact of_decide_eq_true rfl)
           | apply z3 | apply z4 | apply z5 | apply z6 | apply z7 | apply z8 | apply z9 | apply z10 | apply z11 | apply z12 | apply z13 | apply z14 | apply z15 | apply z18 | apply z19 | apply z20 | apply z21 | apply z22 | apply z23 | (apply z16; rfl) | (apply z17; decide)
           | ((first | apply z30 | apply z31 | ((first | apply z32 | apply z33); (simp only [seval, push_cast, *] <;> fail))); (simp only [seval, push_cast, *]; with_reducible rfl); try exact of_decide_eq_true rfl)
           | ((first | apply z34 | apply z35); (simp only [seval, push_cast, *] <;> fail); try exact of_decide_eq_true rfl)
           | ((first | (apply z24; (simp only [seval, push_cast, *]; with_reducible rfl)) | (apply z36; (simp only [seval, push_cast, *]; (fail_if_success (show _ = some true)); (fail_if_success (show _ = some false)); with_reducible rfl)) | (apply z60; rfl; (simp only [seval, push_cast, *]; (fail_if_success (show _ = some true)); (fail_if_success (show _ = some false)); with_reducible rfl))); all_goals (intro hc; (try simp only [Bool.not_eq_true', Bool.not_eq_false'] at hc); (try (exact absurd hc Bool.noConfusion)); (first | have hq := dle_true hc | have hq := dlt_true hc | have hq := dle_false hc | have hq := dlt_false hc | skip); (try (exfalso; simp only [decide_eq_true_eq, decide_eq_false_iff_not] at hc; first | omega | (have := hk.out; omega)))))
           | ((first | apply z40 | apply z41 | (apply z42; (simp only [seval, push_cast, *]; with_reducible rfl))); (simp only [seval, push_cast, *]; with_reducible rfl); all_goals (first | (simp only [seval, push_cast, *] <;> fail) | (simp only [seval, push_cast] <;> fail) | (rw [frz_pure rfl] <;> (simp [*] <;> fail))))
          exact ⟨by (first | (simp only [seval, push_cast, *]; done) | (simp only [seval, push_cast, *]; rfl)), by (first | (simp only [seval, push_cast, *]; done) | (simp only [seval, push_cast, *]; rfl)), by (first | (simp only [seval, push_cast, *]; done) | (simp only [seval, push_cast, *]; rfl)), by (first | (simp only [seval, push_cast, *]; done) | (simp only [seval, push_cast, *]; rfl)), hk2⟩
        · have hk2 := Kp.mk (hn.2 hxy)
          conv => arg 3; whnf
          repeat' first
           | apply z1 | apply z2
           | (apply z50 (id := 6) (ord := [0, 1, 2, 3, 4, 5, 6, 7, 8]) <;> first | kernel_rfl | skip)
           | apply z52
           | (apply chkK_intro; (repeat ((first | (apply zc1; rfl) | (apply zc2; rfl) | (apply zc3; rfl; exact fun _ _ _ _ => rfl)); rfl; rfl; (first | rfl | (simp only [seval, push_cast, *] <;> fail)))); exact chk_nil)
           | ((first | (apply z54; rfl) | (apply z55; rfl) | ((first | (apply z56; rfl) | (apply z57; rfl)); (simp only [seval, push_cast, *] <;> fail))); (simp only [seval, push_cast, *]; with_reducible rfl); try exact of_decide_eq_true rfl)
           | ((first | (apply z58; rfl) | (apply z59; rfl)); (simp only [seval, push_cast, *] <;> fail); try exact of_decide_eq_true rfl)
           | apply z3 | apply z4 | apply z5 | apply z6 | apply z7 | apply z8 | apply z9 | apply z10 | apply z11 | apply z12 | apply z13 | apply z14 | apply z15 | apply z18 | apply z19 | apply z20 | apply z21 | apply z22 | apply z23 | (apply z16; rfl) | (apply z17; decide)
           | ((first | apply z30 | apply z31 | ((first | apply z32 | apply z33); (simp only [seval, push_cast, *] <;> fail))); (simp only [seval, push_cast, *]; with_reducible rfl); try exact of_decide_eq_true rfl)
           | ((first | apply z34 | apply z35); (simp only [seval, push_cast, *] <;> fail); try exact of_decide_eq_true rfl)
           | ((first | (apply z24; (simp only [seval, push_cast, *]; with_reducible rfl)) | (apply z36; (simp only [seval, push_cast, *]; (fail_if_success (show _ = some true)); (fail_if_success (show _ = some false)); with_reducible rfl)) | (apply z60; rfl; (simp only [seval, push_cast, *]; (fail_if_success (show _ = some true)); (fail_if_success (show _ = some false)); with_reducible rfl))); all_goals (intro hc; (try simp only [Bool.not_eq_true', Bool.not_eq_false'] at hc); (try (exact absurd hc Bool.noConfusion)); (first | have hq := dle_true hc | have hq := dlt_true hc | have hq := dle_false hc | have hq := dlt_false hc | skip); (try (exfalso; simp only [decide_eq_true_eq, decide_eq_false_iff_not] at hc; first | omega | (have := hk.out; omega)))))
           | ((first | apply z40 | apply z41 | (apply z42; (simp only [seval, push_cast, *]; with_reducible rfl))); (simp only [seval, push_cast, *]; with_reducible rfl); all_goals (first | (simp only [seval, push_cast, *] <;> fail) | (simp only [seval, push_cast] <;> fail) | (rw [frz_pure rfl] <;> (simp [*] <;> fail))))
          exact ⟨by (first | (simp only [seval, push_cast, *]; done) | (simp only [seval, push_cast, *]; rfl)), .inr ⟨hk2.out, by (first | (simp only [seval, push_cast, *]; done) | (simp only [seval, push_cast, *]; rfl)), rfl⟩⟩
      · rintro ρ H' ⟨rfl, h0, h1, h5, hk⟩
        have hk2 : Kp (a = b) := ⟨by have := hk.out; rw [hab, List.take_length, ← hab, List.take_length] at this; exact this⟩
        conv => arg 3; whnf
        repeat' first
         | apply z1 | apply z2
         | (apply z50 (id := 6) (ord := [0, 1, 2, 3, 4, 5, 6, 7, 8]) <;> first | kernel_rfl | skip)
         | apply z52
         | (apply chkK_intro; (repeat ((first | (apply zc1; rfl) | (apply zc2; rfl) | (apply zc3; rfl; exact fun _ _ _ _ => rfl)); rfl; rfl; (first | rfl | (simp only [seval, push_cast, *] <;> fail)))); exact chk_nil)
         | ((first | (apply z54; rfl) | (apply z55; rfl) | ((first | (apply z56; rfl) | (apply z57; rfl)); (simp only [seval, push_cast, *] <;> fail))); (simp only [seval, push_cast, *]; with_reducible rfl); try exact of_decide_eq_true rfl)
         | ((first | (apply z58; rfl) | (apply z59; rfl)); (simp only [seval, push_cast, *] <;> fail); try exact of_decide_eq_true rfl)
         | apply z3 | apply z4 | apply z5 | apply z6 | apply z7 | apply z8 | apply z9 | apply z10 | apply z11 | apply z12 | apply z13 | apply z14 | apply z15 | apply z18 | apply z19 | apply z20 | apply z21 | apply z22 | apply z23 | (apply z16; rfl) | (apply z17; decide)
         | ((first | apply z30 | apply z31 | ((first | apply z32 | apply z33); (simp only [seval, push_cast, *] <;> fail))); (simp only [seval, push_cast, *]; with_reducible rfl); try exact of_decide_eq_true rfl)
         | ((first | apply z34 | apply z35); (simp only [seval, push_cast, *] <;> fail); try exact of_decide_eq_true rfl)
         | ((first | (apply z24; (simp only [seval, push_cast, *]; with_reducible rfl)) | (apply z36; (simp only [seval, push_cast, *]; (fail_if_success (show _ = some true)); (fail_if_success (show _ = some false)); with_reducible rfl)) | (apply z60; rfl; (simp only [seval, push_cast, *]; (fail_if_success (show _ = some true)); (fail_if_success (show _ = some false)); with_reducible rfl))); all_goals (intro hc; (try simp only [Bool.not_eq_true', Bool.not_eq_false'] at hc); (try (exact absurd hc Bool.noConfusion)); (first | have hq := dle_true hc | have hq := dlt_true hc | have hq := dle_false hc | have hq := dlt_false hc | skip); (try (exfalso; simp only [decide_eq_true_eq, decide_eq_false_iff_not] at hc; first | omega | (have := hk.out; omega)))))
         | ((first | apply z40 | apply z41 | (apply z42; (simp only [seval, push_cast, *]; with_reducible rfl))); (simp only [seval, push_cast, *]; with_reducible rfl); all_goals (first | (simp only [seval, push_cast, *] <;> fail) | (simp only [seval, push_cast] <;> fail) | (rw [frz_pure rfl] <;> (simp [*] <;> fail))))
        exact ⟨by (first | (simp only [seval, push_cast, *]; done) | (simp only [seval, push_cast, *]; rfl)), .inl ⟨hk2.out, rfl⟩⟩
    repeat' first
     | apply z1 | apply z2
     | (apply z50 (id := 6) (ord := [0, 1, 2, 3, 4, 5, 6, 7, 8]) <;> first | kernel_rfl | skip)
     | apply z52
     | (apply chkK_intro; (repeat ((first | (apply zc1; rfl) | (apply zc2; rfl) | (apply zc3; rfl; exact fun _ _ _ _ => rfl)); rfl; rfl; (first | rfl | (simp only [seval, push_cast, *] <;> fail)))); exact chk_nil)
     | ((first | (apply z54; rfl) | (apply z55; rfl) | ((first | (apply z56; rfl) | (apply z57; rfl)); (simp only [seval, push_cast, *] <;> fail))); (simp only [seval, push_cast, *]; with_reducible rfl); try exact of_decide_eq_true rfl)
     | ((first | (apply z58; rfl) | (apply z59; rfl)); (simp only [seval, push_cast, *] <;> fail); try exact of_decide_eq_true rfl)
     | apply z3 | apply z4 | apply z5 | apply z6 | apply z7 | apply z8 | apply z9 | apply z10 | apply z11 | apply z12 | apply z13 | apply z14 | apply z15 | apply z18 | apply z19 | apply z20 | apply z21 | apply z22 | apply z23 | (apply z16; rfl) | (apply z17; decide)
     | ((first | apply z30 | apply z31 | ((first | apply z32 | apply z33); (simp only [seval, push_cast, *] <;> fail))); (simp only [seval, push_cast, *]; with_reducible rfl); try exact of_decide_eq_true rfl)
     | ((first | apply z34 | apply z35); (simp only [seval, push_cast, *] <;> fail); try exact of_decide_eq_true rfl)
     | ((first | (apply z24; (simp only [seval, push_cast, *]; with_reducible rfl)) | (apply z36; (simp only [seval, push_cast, *]; (fail_if_success (show _ = some true)); (fail_if_success (show _ = some false)); with_reducible rfl)) | (apply z60; rfl; (simp only [seval, push_cast, *]; (fail_if_success (show _ = some true)); (fail_if_success (show _ = some false)); with_reducible rfl))); all_goals (intro hc; (try simp only [Bool.not_eq_true', Bool.not_eq_false'] at hc); (try (exact absurd hc Bool.noConfusion)); (first | have hq := dle_true hc | have hq := dlt_true hc | have hq := dle_false hc | have hq := dlt_false hc | skip); (try (exfalso; simp only [decide_eq_true_eq, decide_eq_false_iff_not] at hc; first | omega | (have := hk.out; omega)))))
     | ((first | apply z40 | apply z41 | (apply z42; (simp only [seval, push_cast, *]; with_reducible rfl))); (simp only [seval, push_cast, *]; with_reducible rfl); all_goals (first | (simp only [seval, push_cast, *] <;> fail) | (simp only [seval, push_cast] <;> fail) | (rw [frz_pure rfl] <;> (simp [*] <;> fail))))
    refine lp_then (lp_any (c := loopAt Tryz.f16 0) rfl (key _ 0 _ _ (by omega) ⟨rfl, by (first | (simp only [seval, push_cast, *]; done) | (simp only [seval, push_cast, *]; rfl)), by (first | (simp only [seval, push_cast, *]; done) | (simp only [seval, push_cast, *]; rfl)), by (first | (simp only [seval, push_cast, *]; done) | (simp only [seval, push_cast, *]; rfl)), ⟨rfl⟩⟩)) ?_
    rintro ex ρ' H' ⟨rfl, ⟨he, rfl⟩ | ⟨he, f4, rfl⟩⟩ hf
    · clear key
      repeat' first
       | apply z1 | apply z2
       | (apply z50 (id := 6) (ord := [0, 1, 2, 3, 4, 5, 6, 7, 8]) <;> first | kernel_rfl | skip)
       | apply z52
       | (apply chkK_intro; (repeat ((first | (apply zc1; rfl) | (apply zc2; rfl) | (apply zc3; rfl; exact fun _ _ _ _ => rfl)); rfl; rfl; (first | rfl | (simp only [seval, push_cast, *] <;> fail)))); exact chk_nil)
       | ((first | (apply z54; rfl) | (apply z55; rfl) | ((first | (apply z56; rfl) | (apply z57; rfl)); (simp only [seval, push_cast, *] <;> fail))); (simp only [seval, push_cast, *]; with_reducible rfl); try exact of_decide_eq_true rfl)
       | ((first | (apply z58; rfl) | (apply z59; rfl)); (simp only [seval, push_cast, *] <;> fail); try exact of_decide_eq_true rfl)
       | apply z3 | apply z4 | apply z5 | apply z6 | apply z7 | apply z8 | apply z9 | apply z10 | apply z11 | apply z12 | apply z13 | apply z14 | apply z15 | apply z18 | apply z19 | apply z20 | apply z21 | apply z22 | apply z23 | (apply z16; rfl) | (apply z17; decide)
       | ((first | apply z30 | apply z31 | ((first | apply z32 | apply z33); (simp only [seval, push_cast, *] <;> fail))); (simp only [seval, push_cast, *]; with_reducible rfl); try exact of_decide_eq_true rfl)
       | ((first | apply z34 | apply z35); (simp only [seval, push_cast, *] <;> fail); try exact of_decide_eq_true rfl)
       | ((first | (apply z24; (simp only [seval, push_cast, *]; with_reducible rfl)) | (apply z36; (simp only [seval, push_cast, *]; (fail_if_success (show _ = some true)); (fail_if_success (show _ = some false)); with_reducible rfl)) | (apply z60; rfl; (simp only [seval, push_cast, *]; (fail_if_success (show _ = some true)); (fail_if_success (show _ = some false)); with_reducible rfl))); all_goals (intro hc; (try simp only [Bool.not_eq_true', Bool.not_eq_false'] at hc); (try (exact absurd hc Bool.noConfusion)); (first | have hq := dle_true hc | have hq := dlt_true hc | have hq := dle_false hc | have hq := dlt_false hc | skip); (try (exfalso; simp only [decide_eq_true_eq, decide_eq_false_iff_not] at hc; first | omega | (have := hk.out; omega)))))
       | ((first | apply z40 | apply z41 | (apply z42; (simp only [seval, push_cast, *]; with_reducible rfl))); (simp only [seval, push_cast, *]; with_reducible rfl); all_goals (first | (simp only [seval, push_cast, *] <;> fail) | (simp only [seval, push_cast] <;> fail) | (rw [frz_pure rfl] <;> (simp [*] <;> fail))))
    · clear key
      repeat' first
       | apply z1 | apply z2
       | (apply z50 (id := 6) (ord := [0, 1, 2, 3, 4, 5, 6, 7, 8]) <;> first | kernel_rfl | skip)
       | apply z52
       | (apply chkK_intro; (repeat ((first | (apply zc1; rfl) | (apply zc2; rfl) | (apply zc3; rfl; exact fun _ _ _ _ => rfl)); rfl; rfl; (first | rfl | (simp only [seval, push_cast, *] <;> fail)))); exact chk_nil)
       | ((first | (apply z54; rfl) | (apply z55; rfl) | ((first | (apply z56; rfl) | (apply z57; rfl)); (simp only [seval, push_cast, *] <;> fail))); (simp only [seval, push_cast, *]; with_reducible rfl); try exact of_decide_eq_true rfl)
       | ((first | (apply z58; rfl) | (apply z59; rfl)); (simp only [seval, push_cast, *] <;> fail); try exact of_decide_eq_true rfl)
       | apply z3 | apply z4 | apply z5 | apply z6 | apply z7 | apply z8 | apply z9 | apply z10 | apply z11 | apply z12 | apply z13 | apply z14 | apply z15 | apply z18 | apply z19 | apply z20 | apply z21 | apply z22 | apply z23 | (apply z16; rfl) | (apply z17; decide)
       | ((first | apply z30 | apply z31 | ((first | apply z32 | apply z33); (simp only [seval, push_cast, *] <;> fail))); (simp only [seval, push_cast, *]; with_reducible rfl); try exact of_decide_eq_true rfl)
       | ((first | apply z34 | apply z35); (simp only [seval, push_cast, *] <;> fail); try exact of_decide_eq_true rfl)
       | ((first | (apply z24; (simp only [seval, push_cast, *]; with_reducible rfl)) | (apply z36; (simp only [seval, push_cast, *]; (fail_if_success (show _ = some true)); (fail_if_success (show _ = some false)); with_reducible rfl)) | (apply z60; rfl; (simp only [seval, push_cast, *]; (fail_if_success (show _ = some true)); (fail_if_success (show _ = some false)); with_reducible rfl))); all_goals (intro hc; (try simp only [Bool.not_eq_true', Bool.not_eq_false'] at hc); (try (exact absurd hc Bool.noConfusion)); (first | have hq := dle_true hc | have hq := dlt_true hc | have hq := dle_false hc | have hq := dlt_false hc | skip); (try (exfalso; simp only [decide_eq_true_eq, decide_eq_false_iff_not] at hc; first | omega | (have := hk.out; omega)))))
       | ((first | apply z40 | apply z41 | (apply z42; (simp only [seval, push_cast, *]; with_reducible rfl))); (simp only [seval, push_cast, *]; with_reducible rfl); all_goals (first | (simp only [seval, push_cast, *] <;> fail) | (simp only [seval, push_cast] <;> fail) | (rw [frz_pure rfl] <;> (simp [*] <;> fail))))
  · have hne : ¬ a = b := fun h => hab (h ▸ rfl)
    repeat' first
     | apply z1 | apply z2
     | (apply z50 (id := 6) (ord := [0, 1, 2, 3, 4, 5, 6, 7, 8]) <;> first | kernel_rfl | skip)
     | apply z52
     | (apply chkK_intro; (repeat ((first | (apply zc1; rfl) | (apply zc2; rfl) | (apply zc3; rfl; exact fun _ _ _ _ => rfl)); rfl; rfl; (first | rfl | (simp only [seval, push_cast, *] <;> fail)))); exact chk_nil)
     | ((first | (apply z54; rfl) | (apply z55; rfl) | ((first | (apply z56; rfl) | (apply z57; rfl)); (simp only [seval, push_cast, *] <;> fail))); (simp only [seval, push_cast, *]; with_reducible rfl); try exact of_decide_eq_true rfl)
     | ((first | (apply z58; rfl) | (apply z59; rfl)); (simp only [seval, push_cast, *] <;> fail); try exact of_decide_eq_true rfl)
     | apply z3 | apply z4 | apply z5 | apply z6 | apply z7 | apply z8 | apply z9 | apply z10 | apply z11 | apply z12 | apply z13 | apply z14 | apply z15 | apply z18 | apply z19 | apply z20 | apply z21 | apply z22 | apply z23 | (apply z16; rfl) | (apply z17; decide)
     | ((first | apply z30 | apply z31 | ((first | apply z32 | apply z33); (simp only [seval, push_cast, *] <;> fail))); (simp only [seval, push_cast, *]; with_reducible rfl); try exact of_decide_eq_true rfl)
     | ((first | apply z34 | apply z35); (simp only [seval, push_cast, *] <;> fail); try exact of_decide_eq_true rfl)
     | ((first | (apply z24; (simp only [seval, push_cast, *]; with_reducible rfl)) | (apply z36; (simp only [seval, push_cast, *]; (fail_if_success (show _ = some true)); (fail_if_success (show _ = some false)); with_reducible rfl)) | (apply z60; rfl; (simp only [seval, push_cast, *]; (fail_if_success (show _ = some true)); (fail_if_success (show _ = some false)); with_reducible rfl))); all_goals (intro hc; (try simp only [Bool.not_eq_true', Bool.not_eq_false'] at hc); (try (exact absurd hc Bool.noConfusion)); (first | have hq := dle_true hc | have hq := dlt_true hc | have hq := dle_false hc | have hq := dlt_false hc | skip); (try (exfalso; simp only [decide_eq_true_eq, decide_eq_false_iff_not] at hc; first | omega | (have := hk.out; omega)))))
     | ((first | apply z40 | apply z41 | (apply z42; (simp only [seval, push_cast, *]; with_reducible rfl))); (simp only [seval, push_cast, *]; with_reducible rfl); all_goals (first | (simp only [seval, push_cast, *] <;> fail) | (simp only [seval, push_cast] <;> fail) | (rw [frz_pure rfl] <;> (simp [*] <;> fail))))

end Go.E
