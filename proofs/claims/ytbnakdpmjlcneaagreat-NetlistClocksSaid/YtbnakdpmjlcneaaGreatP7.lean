/- Contracts of the references, in E: errors of values; lists. Own work. -/
import Derived.Test.YtbnakdpmjlcneaaGreatP6
import Derived.Test.YtbnakdpmjlcneaaGreatP5
import Derived.Test.YtbnakdpmjlcneaaGreatP4
set_option linter.all false
namespace Go.E
open Go.Proofs
set_option maxRecDepth 100000
set_option maxHeartbeats 4000000

theorem bs_isValues (bs : List Nat) (H : Heap) (ws l : List Int) (h : l.length = ws.length) (hl : l.length ≤ 1000000) (hw : ∀ w ∈ ws, 0 ≤ w) : callw X bs 152 [.list (ws.map (.int .i64)), .list (l.map (.int .i64))] H = some (.bool (decide ((eachP (fun i n => if fitsN n (at0 ws i) = true then (0 : Int) else 2) 0 l).2 = 0)), H) := by
  refine call_at (rs := [.tmp 4]) (N := 27) (fn := Tryz.f152) xk152 xf152 rfl rfl rfl (by simp only [seval, push_cast, List.map_cons, List.map_nil, V.norm, norm1]; rfl) ?_
  have key : ∀ (R : Bool) (bs : List Nat) i ρ H', i ≤ l.length → (H' = H ∧ ρ 0 = .list (ws.map (.int .i64)) ∧ ρ 1 = .list (l.map (.int .i64)) ∧ ρ 5 = .int .i64 i ∧ Kp (decide ((eachP (fun i n => if fitsN n (at0 ws i) = true then (0 : Int) else 2) i (l.drop i)).2 = 0) = R)) →
      Lp X ⟨27, bs⟩ (loopAt Tryz.f152 0) ρ H' fun ex ρ' H' => H' = H ∧ ((ex = .exit 0 ∧ R = true) ∨ (ex = .ret ∧ ρ' 4 = .bool false ∧ R = false)) := by
    intro R bs
    refine loop_up ?_ ?_
    · rintro i ρ H' hi ⟨rfl, h0, h1, h5, hR⟩
      have hget : l[i]? = some l[i] := by simp [hi]
      have hiw : i < ws.length := by omega
      have hgw : ws[i]? = some ws[i] := by simp [hiw]
      have hwi := hw ws[i] (List.getElem_mem hiw)
      have hat := at0_get hgw
      replace hR := hR.out
      rw [drop_cons hget, eachP, hat] at hR
      generalize l[i] = x at hget hR
      generalize ws[i] = y at hgw hwi hat hR
      have hf := fun bs H => bs_fits bs H x y hwi
      have hw1 := add1 i l.length hi hl
      clear hw hat hwi
      cases hb : fitsN x y with
      | true =>
        rw [hb] at hR hf
        simp only [if_true, ne_eq, not_true_eq_false, if_false] at hR
        replace hR : Kp (decide ((eachP (fun i n => if fitsN n (at0 ws i) = true then (0 : Int) else 2) (i + 1) (l.drop (i + 1))).2 = 0) = R) := ⟨hR⟩
        conv => arg 3; whnf
        repeat' first
         | (apply z50 (id := 6) (ord := [0, 1, 2, 3, 4, 5, 6, 7, 8, 9]) <;> first | kernel_rfl | skip)
         | (refine zs ?_; repeat' first | apply zs0 | apply zs2 | (intro hc; try have hq := dq hc)) | fail
        exact ⟨rfl, by (simp only [seval, push_cast, *] <;> rfl), by (simp only [seval, push_cast, *] <;> rfl), by (simp only [seval, push_cast, *] <;> rfl), hR⟩
      | false =>
        rw [hb] at hR hf
        simp at hR
        replace hR : Kp (R = false) := ⟨hR.symm ▸ rfl⟩
        conv => arg 3; whnf
        repeat' first
         | (apply z50 (id := 6) (ord := [0, 1, 2, 3, 4, 5, 6, 7, 8, 9]) <;> first | kernel_rfl | skip)
         | (refine zs ?_; repeat' first | apply zs0 | apply zs2 | (intro hc; try have hq := dq hc)) | fail
        exact ⟨rfl, .inr ⟨rfl, by (simp only [seval, push_cast, *] <;> rfl), hR.out⟩⟩
    · rintro ρ H' ⟨rfl, h0, h1, h5, hR⟩
      replace hR := hR.out
      rw [List.drop_length] at hR
      simp [eachP] at hR
      replace hR : Kp (R = true) := ⟨by simp [hR]⟩
      clear hw
      conv => arg 3; whnf
      repeat' first
       | (apply z50 (id := 6) (ord := [0, 1, 2, 3, 4, 5, 6, 7, 8, 9]) <;> first | kernel_rfl | skip)
       | (refine zs ?_; repeat' first | apply zs0 | apply zs2 | (intro hc; try have hq := dq hc)) | fail
      exact ⟨rfl, .inl ⟨rfl, hR.out⟩⟩
  have d : (decide ¬ (ws.length : Int) = (l.length : Int)) = false := decide_eq_false (by omega)
  clear hw
  repeat' first
   | (apply z50 (id := 6) (ord := [0, 1, 2, 3, 4, 5, 6, 7, 8, 9]) <;> first | kernel_rfl | skip)
   | (refine zs ?_; repeat' first | apply zs0 | apply zs2 | (intro hc; try have hq := dq hc)) | fail
  refine lp_then (lp_any (c := loopAt Tryz.f152 0) rfl (key _ _ 0 _ _ (by omega) ⟨rfl, by (simp only [seval, push_cast, *] <;> rfl), by (simp only [seval, push_cast, *] <;> rfl), by (simp only [seval, push_cast, *] <;> rfl), ⟨rfl⟩⟩)) ?_
  rintro ex ρ' H' ⟨rfl, ⟨rfl, h2⟩ | ⟨rfl, h3, h2⟩⟩ hf
  · rw [List.drop_zero] at h2
    rw [h2]
    clear key hf
    repeat' first
     | (apply z50 (id := 6) (ord := [0, 1, 2, 3, 4, 5, 6, 7, 8, 9]) <;> first | kernel_rfl | skip)
     | (refine zs ?_; repeat' first | apply zs0 | apply zs2 | (intro hc; try have hq := dq hc)) | fail
  · rw [List.drop_zero] at h2
    rw [h2]
    clear key hf
    repeat' first
     | (apply z50 (id := 6) (ord := [0, 1, 2, 3, 4, 5, 6, 7, 8, 9]) <;> first | kernel_rfl | skip)
     | (refine zs ?_; repeat' first | apply zs0 | apply zs2 | (intro hc; try have hq := dq hc)) | fail

theorem eachP_02 (ws : List Int) : ∀ (l : List Int) (i : Nat), (eachP (fun i n => if fitsN n (at0 ws i) = true then (0 : Int) else 2) i l).2 = 0 ∨ (eachP (fun i n => if fitsN n (at0 ws i) = true then (0 : Int) else 2) i l).2 = 2
  | [], _ => .inl rfl
  | x :: r, i => by
    unfold eachP
    by_cases h : fitsN x (at0 ws i) = true
    · simp only [h, if_true, ne_eq, not_true_eq_false, if_false]; exact eachP_02 ws r (i + 1)
    · simp [h]
theorem bs_valuesErr (bs : List Nat) (H : Heap) (ws l : List Int) (hws : ws.length ≤ 1000000) (hl : l.length ≤ 1000000) (hw : ∀ w ∈ ws, 0 ≤ w) : callw X bs 96 [.list (ws.map (.int .i64)), .list (l.map (.int .i64))] H = some (.int .i64 (valErrS ws l), H) := by
  refine call_at (rs := [.tmp 4]) (N := 14) (fn := Tryz.f96) xk96 xf96 rfl rfl rfl (by simp only [seval, push_cast, List.map_cons, List.map_nil, V.norm, norm1]; rfl) ?_
  unfold valErrS
  by_cases h : l.length = ws.length
  · have d : (decide ¬ (ws.length : Int) = (l.length : Int)) = false := decide_eq_false (by omega)
    have t := fun bs H => bs_isValues bs H ws l h hl hw
    rw [if_pos h]
    rcases eachP_02 ws l 0 with he | he
    · rw [he] at t ⊢
      clear hw h he
      all_goals try (refine zs ?_; repeat' first | apply zs0 | apply zs2 | (intro hc; try have hq := dq hc))
    · rw [he] at t ⊢
      clear hw h he
      all_goals try (refine zs ?_; repeat' first | apply zs0 | apply zs2 | (intro hc; try have hq := dq hc))
  · have d : (decide ¬ (ws.length : Int) = (l.length : Int)) = true := decide_eq_true (by omega)
    rw [if_neg h]
    clear hw h
    all_goals try (refine zs ?_; repeat' first | apply zs0 | apply zs2 | (intro hc; try have hq := dq hc))

theorem rf_inputsErr (bs : List Nat) (H : Heap) (n : Netl) (l : List Int) (hi : n.inputs.length ≤ 1000) (hr : n.regs.length ≤ 1000) (hl : l.length ≤ 1000000) (hw : ∀ w ∈ n.inputs.map (·.width), 0 ≤ w) : callw X bs 26 [encNetl n, .list (l.map (.int .i64))] H = some (.int .i64 (inErrS n l), H) := by
  refine call_at (rs := [.tmp 4]) (N := 13) (fn := Tryz.f26) xk26 xf26 rfl rfl rfl (by simp only [seval, push_cast, List.map_cons, List.map_nil, V.norm, norm1]; rfl) ?_
  have t1 := fun bs H => bs_netLeaves bs H n hi hr
  have t2 := slice_hi (leavesN n) n.inputs.length (by simp [leavesN])
  rw [in_take] at t2
  have t3 := fun bs H => bs_valuesErr bs H (n.inputs.map (·.width)) l (by simp; omega) hl hw
  simp only [encNetl, cellsNetl] at t1
  unfold inErrS
  generalize n.inputs.map (fun p : Port => p.width) = ws at t2 t3 ⊢
  generalize leavesN n = lvs at t1 t2
  clear hw
  repeat' first
   | (apply z51 (id := 1) (ord := [0, 2, 3, 4, 6, 1, 5, 7, 8]) (ps := [(2, 5)]) <;> first | kernel_rfl | skip)
   | (refine zs ?_; repeat' first | apply zs0 | apply zs2 | (intro hc; try have hq := dq hc)) | fail

theorem rf_stateErr (bs : List Nat) (H : Heap) (n : Netl) (l : List Int) (hi : n.inputs.length ≤ 1000) (hr : n.regs.length ≤ 1000) (hl : l.length ≤ 1000000) (hw : ∀ w ∈ n.regs.map (·.width), 0 ≤ w) : callw X bs 27 [encNetl n, .list (l.map (.int .i64))] H = some (.int .i64 (stErrS n l), H) := by
  refine call_at (rs := [.tmp 4]) (N := 13) (fn := Tryz.f27) xk27 xf27 rfl rfl rfl (by simp only [seval, push_cast, List.map_cons, List.map_nil, V.norm, norm1]; rfl) ?_
  have t1 := fun bs H => bs_netLeaves bs H n hi hr
  have t2 := slice_lo (leavesN n) n.inputs.length (by simp [leavesN])
  rw [in_drop] at t2
  have t3 := fun bs H => bs_valuesErr bs H (n.regs.map (·.width)) l (by simp; omega) hl hw
  simp only [encNetl, cellsNetl] at t1
  unfold stErrS
  generalize n.regs.map (fun p : Reg => p.width) = ws at t2 t3 ⊢
  generalize leavesN n = lvs at t1 t2
  clear hw
  repeat' first
   | (apply z51 (id := 1) (ord := [0, 2, 3, 4, 6, 1, 5, 7, 8]) (ps := [(2, 5)]) <;> first | kernel_rfl | skip)
   | (refine zs ?_; repeat' first | apply zs0 | apply zs2 | (intro hc; try have hq := dq hc)) | fail

theorem rf_err (bs : List Nat) (H : Heap) (n : Netl) (hS : Small n) : callw X bs 24 [encNetl n] H = some (.int .i64 (netErrR n).2, H) := by
  refine call_at (rs := [.tmp 2]) (N := 11) (fn := Tryz.f24) xk24 xf24 rfl rfl rfl (by simp only [seval, push_cast, List.map_cons, List.map_nil, V.norm, norm1]; rfl) ?_
  have t1 := fun bs H => bs_netErr bs H n hS
  simp only [encNetl, cellsNetl] at t1
  clear hS
  all_goals try (refine zs ?_; repeat' first | apply zs0 | apply zs2 | (intro hc; try have hq := dq hc))

theorem nl_traceOf (bs : List Nat) (H : Heap) (n : Netl) (l : List (List Int)) (hS : Small n) (hl : l.length ≤ 1000) (hll : ∀ x ∈ l, x.length ≤ 100000) : callw X bs 21 [encNetl n, .list (l.map encInts)] H = some (.tuple [.list (if runErrS n l = 0 then (trL n l l.length).map encInts else []), .int .i64 (runErrS n l)], H) := by
  refine call_at (rs := [.tmp 4, .tmp 5]) (N := 18) (fn := Tryz.f21) xk21 xf21 rfl rfl rfl (by simp only [seval, push_cast, List.map_cons, List.map_nil, V.norm, norm1]; rfl) ?_
  have t1 := fun bs H => nl_run bs H n l hS hl hll
  simp only [encNetl, cellsNetl] at t1
  have hp : V.pureL (if runErrS n l = 0 then (trL n l l.length).map encInts else []) = true := by split; exact pureL_encInts _; rfl
  generalize (if runErrS n l = 0 then (trL n l l.length).map encInts else []) = a at t1 hp ⊢
  generalize (if runErrS n l = 0 then (stL n l l.length).map encInts else []) = b at t1
  generalize runErrS n l = e at t1 ⊢
  clear hS hll
  all_goals try (refine zs ?_; repeat' first | apply zs0 | apply zs2 | (intro hc; try have hq := dq hc))

theorem nl_statesOf (bs : List Nat) (H : Heap) (n : Netl) (l : List (List Int)) (hS : Small n) (hl : l.length ≤ 1000) (hll : ∀ x ∈ l, x.length ≤ 100000) : callw X bs 23 [encNetl n, .list (l.map encInts)] H = some (.tuple [.list (if runErrS n l = 0 then (stL n l l.length).map encInts else []), .int .i64 (runErrS n l)], H) := by
  refine call_at (rs := [.tmp 4, .tmp 5]) (N := 18) (fn := Tryz.f23) xk23 xf23 rfl rfl rfl (by simp only [seval, push_cast, List.map_cons, List.map_nil, V.norm, norm1]; rfl) ?_
  have t1 := fun bs H => nl_run bs H n l hS hl hll
  simp only [encNetl, cellsNetl] at t1
  have hp : V.pureL (if runErrS n l = 0 then (stL n l l.length).map encInts else []) = true := by split; exact pureL_encInts _; rfl
  generalize (if runErrS n l = 0 then (stL n l l.length).map encInts else []) = a at t1 hp ⊢
  generalize (if runErrS n l = 0 then (trL n l l.length).map encInts else []) = b at t1
  generalize runErrS n l = e at t1 ⊢
  clear hS hll
  all_goals try (refine zs ?_; repeat' first | apply zs0 | apply zs2 | (intro hc; try have hq := dq hc))
end Go.E
/- Contracts of the references, in E: sequences; lists of lists. Own work. -/
namespace Go.E
open Go.Proofs
set_option maxRecDepth 100000
set_option maxHeartbeats 4000000

theorem rf_allErr (bs : List Nat) (H : Heap) (n : Netl) (l : List (List Int)) (hi : n.inputs.length ≤ 1000) (hr : n.regs.length ≤ 1000) (hl : l.length ≤ 1000) (hll : ∀ x ∈ l, x.length ≤ 100000) (hw : ∀ w ∈ n.inputs.map (·.width), 0 ≤ w) : callw X bs 95 [encNetl n, .list (l.map encInts)] H = some (.int .i64 (eachP (fun _ x => inErrS n x) 0 l).2, H) := by
  refine call_at (rs := [.tmp 4]) (N := 22) (fn := Tryz.f95) xk95 xf95 rfl rfl rfl (by simp only [seval, push_cast, List.map_cons, List.map_nil, V.norm, norm1]; rfl) ?_
  have key : ∀ (R : Int) (bs : List Nat) i ρ H', i ≤ l.length → (H' = H ++ [.cells (cellsNetl n)] ∧ ρ 1 = .list (l.map encInts) ∧ ρ 2 = .ptr H.length 0 ∧ ρ 5 = .int .i64 i ∧ Kp ((eachP (fun _ x => inErrS n x) i (l.drop i)).2 = R)) →
      Lp X ⟨22, bs⟩ (loopAt Tryz.f95 0) ρ H' fun ex ρ' H' => H' = H ++ [.cells (cellsNetl n)] ∧ ((ex = .exit 0 ∧ R = 0) ∨ (ex = .ret ∧ ρ' 4 = .int .i64 R)) := by
    intro R bs
    refine loop_up ?_ ?_
    · rintro i ρ H' hlt ⟨rfl, h1, h2, h5, hR⟩
      have hget : l[i]? = some l[i] := by simp [hlt]
      have hle := hll l[i] (List.getElem_mem hlt)
      replace hR := hR.out
      rw [drop_cons hget, eachP] at hR
      have t := fun bs H => rf_inputsErr bs H n l[i] hi hr (by omega) hw
      simp only [encNetl, cellsNetl] at t
      generalize l[i] = x at hget hR t
      have hw1 := add1 i l.length hlt (by omega)
      clear hw hll hle
      generalize inErrS n x = e at hR t
      by_cases he : e = 0
      · subst he
        simp only [ne_eq, not_true_eq_false, if_false] at hR
        replace hR : Kp ((eachP (fun _ x => inErrS n x) (i + 1) (l.drop (i + 1))).2 = R) := ⟨hR⟩
        conv => arg 3; whnf
        repeat' first
         | (apply z50 (id := 4) (ord := [0, 1, 2, 3, 4, 5, 6]) <;> first | kernel_rfl | skip)
         | (refine zs ?_; repeat' first | apply zs0 | apply zs2 | (intro hc; try have hq := dq hc)) | fail
        exact ⟨by simp only [cellsNetl], by (simp only [seval, push_cast, *] <;> rfl), by (simp only [seval, push_cast, *] <;> rfl), by (simp only [seval, push_cast, *] <;> rfl), hR⟩
      · simp only [ne_eq, he, not_false_eq_true, if_true] at hR
        replace hR : Kp (e = R) := ⟨hR⟩
        conv => arg 3; whnf
        repeat' first
         | (apply z50 (id := 4) (ord := [0, 1, 2, 3, 4, 5, 6]) <;> first | kernel_rfl | skip)
         | (refine zs ?_; repeat' first | apply zs0 | apply zs2 | (intro hc; try have hq := dq hc)) | fail
        exact ⟨by simp only [cellsNetl], .inr ⟨rfl, by rw [← hR.out]; (simp only [seval, push_cast, *] <;> rfl)⟩⟩
    · rintro ρ H' ⟨rfl, h1, h2, h5, hR⟩
      replace hR := hR.out
      rw [List.drop_length] at hR
      replace hR : Kp (R = 0) := ⟨hR.symm⟩
      clear hw hll
      conv => arg 3; whnf
      repeat' first
       | (apply z50 (id := 4) (ord := [0, 1, 2, 3, 4, 5, 6]) <;> first | kernel_rfl | skip)
       | (refine zs ?_; repeat' first | apply zs0 | apply zs2 | (intro hc; try have hq := dq hc)) | fail
      exact ⟨by simp only [cellsNetl], .inl ⟨rfl, hR.out⟩⟩
  clear hw hll
  repeat' first
   | (apply z50 (id := 4) (ord := [0, 1, 2, 3, 4, 5, 6]) <;> first | kernel_rfl | skip)
   | (refine zs ?_; repeat' first | apply zs0 | apply zs2 | (intro hc; try have hq := dq hc)) | fail
  refine lp_then (lp_any (c := loopAt Tryz.f95 0) rfl (key _ _ 0 _ _ (by omega) ⟨by simp only [cellsNetl], by (simp only [seval, push_cast, *] <;> rfl), by (simp only [seval, push_cast, *] <;> rfl), by (simp only [seval, push_cast, *] <;> rfl), ⟨rfl⟩⟩)) ?_
  rintro ex ρ' H' ⟨rfl, ⟨rfl, h2⟩ | ⟨rfl, h2⟩⟩ hf
  · rw [List.drop_zero] at h2
    rw [h2]
    clear key hf
    repeat' first
     | (apply z50 (id := 4) (ord := [0, 1, 2, 3, 4, 5, 6]) <;> first | kernel_rfl | skip)
     | (refine zs ?_; repeat' first | apply zs0 | apply zs2 | (intro hc; try have hq := dq hc)) | fail
  · rw [List.drop_zero] at h2
    clear key hf
    repeat' first
     | (apply z50 (id := 4) (ord := [0, 1, 2, 3, 4, 5, 6]) <;> first | kernel_rfl | skip)
     | (refine zs ?_; repeat' first | apply zs0 | apply zs2 | (intro hc; try have hq := dq hc)) | fail

theorem rf_seqErr (bs : List Nat) (H : Heap) (n : Netl) (l : List (List Int)) (hi : n.inputs.length ≤ 1000) (hr : n.regs.length ≤ 1000) (hl : l.length ≤ 1000) (hll : ∀ x ∈ l, x.length ≤ 100000) (hw : ∀ w ∈ n.inputs.map (·.width), 0 ≤ w) : callw X bs 25 [encNetl n, .list (l.map encInts)] H = some (.int .i64 (if l.length ≤ 60 then (eachP (fun _ x => inErrS n x) 0 l).2 else 8), H) := by
  refine call_at (rs := [.tmp 4]) (N := 11) (fn := Tryz.f25) xk25 xf25 rfl rfl rfl (by simp only [seval, push_cast, List.map_cons, List.map_nil, V.norm, norm1]; rfl) ?_
  have t := fun bs H => rf_allErr bs H n l hi hr hl hll hw
  simp only [encNetl, cellsNetl] at t
  clear hw hll
  by_cases h : l.length ≤ 60
  · have d : ¬ (l.length : Int) > 60 := by omega
    rw [if_pos h]
    clear h
    all_goals try (refine zs ?_; repeat' first | apply zs0 | apply zs2 | (intro hc; try have hq := dq hc))
  · have d : (l.length : Int) > 60 := by omega
    rw [if_neg h]
    clear h
    all_goals try (refine zs ?_; repeat' first | apply zs0 | apply zs2 | (intro hc; try have hq := dq hc))

theorem bs_lists (bs : List Nat) (H : Heap) (a b : List (List Int)) (ha : a.length ≤ 1000000) (hb : b.length ≤ 1000000) (hla : ∀ x ∈ a, x.length ≤ 1000000) (hlb : ∀ x ∈ b, x.length ≤ 1000000) : callw X bs 29 [.list (a.map encInts), .list (b.map encInts)] H = some (.bool (decide (a = b)), H) := by
  refine call_at (rs := [.tmp 4]) (N := 27) (fn := Tryz.f29) xk29 xf29 rfl rfl rfl (by simp only [seval, push_cast, List.map_cons, List.map_nil, V.norm, norm1]; rfl) ?_
  rcases Classical.em (a.length = b.length) with hab | hab
  · have key : ∀ (bs : List Nat) i ρ H', i ≤ a.length → (H' = H ∧ ρ 0 = .list (a.map encInts) ∧ ρ 1 = .list (b.map encInts) ∧ ρ 5 = .int .i64 i ∧ Kp (a.take i = b.take i)) →
      Lp X ⟨27, bs⟩ (loopAt Tryz.f29 0) ρ H' fun ex ρ' H' => H' = H ∧ ((a = b ∧ ex = .exit 0) ∨ (a ≠ b ∧ ρ' 4 = .bool false ∧ ex = .ret)) := by
      intro bs
      refine loop_up ?_ ?_
      · rintro i ρ H' hlt ⟨rfl, h0, h1, h5, hk⟩
        have hltb : i < b.length := by omega
        have hget : a[i]? = some a[i] := by simp [hlt]
        have hgetb : b[i]? = some b[i] := by simp [hltb]
        have hxa := hla a[i] (List.getElem_mem hlt)
        have hxb := hlb b[i] (List.getElem_mem hltb)
        have hw := add1 i a.length hlt (by omega)
        have hn := take_step hget hgetb hk.out
        generalize a[i] = x at hget hn hxa
        generalize b[i] = y at hgetb hn hxb
        have t := fun bs H => bs_ints bs H x y hxa hxb
        clear hla hlb
        rcases Classical.em (x = y) with hxy | hxy
        · have hk2 := Kp.mk (hn.1 hxy)
          rw [decide_eq_true hxy] at t
          clear hn hk hxy hxa hxb
          conv => arg 3; whnf
          repeat' first
           | (apply z50 (id := 6) (ord := [0, 1, 2, 3, 4, 5, 6, 7, 8, 9]) <;> first | kernel_rfl | skip)
           | (refine zs ?_; repeat' first | apply zs0 | apply zs2 | (intro hc; try have hq := dq hc)) | fail
          exact ⟨by (simp only [seval, push_cast, *] <;> rfl), by (simp only [seval, push_cast, *] <;> rfl), by (simp only [seval, push_cast, *] <;> rfl), by (simp only [seval, push_cast, *] <;> rfl), hk2⟩
        · have hk2 := Kp.mk (hn.2 hxy)
          rw [decide_eq_false hxy] at t
          clear hn hk hxy hxa hxb
          conv => arg 3; whnf
          repeat' first
           | (apply z50 (id := 6) (ord := [0, 1, 2, 3, 4, 5, 6, 7, 8, 9]) <;> first | kernel_rfl | skip)
           | (refine zs ?_; repeat' first | apply zs0 | apply zs2 | (intro hc; try have hq := dq hc)) | fail
          exact ⟨by (simp only [seval, push_cast, *] <;> rfl), .inr ⟨hk2.out, by (simp only [seval, push_cast, *] <;> rfl), rfl⟩⟩
      · rintro ρ H' ⟨rfl, h0, h1, h5, hk⟩
        have hk2 : Kp (a = b) := ⟨by have := hk.out; rw [hab, List.take_length, ← hab, List.take_length] at this; exact this⟩
        clear hla hlb
        conv => arg 3; whnf
        repeat' first
         | (apply z50 (id := 6) (ord := [0, 1, 2, 3, 4, 5, 6, 7, 8, 9]) <;> first | kernel_rfl | skip)
         | (refine zs ?_; repeat' first | apply zs0 | apply zs2 | (intro hc; try have hq := dq hc)) | fail
        exact ⟨by (simp only [seval, push_cast, *] <;> rfl), .inl ⟨hk2.out, rfl⟩⟩
    clear hla hlb
    repeat' first
     | (apply z50 (id := 6) (ord := [0, 1, 2, 3, 4, 5, 6, 7, 8, 9]) <;> first | kernel_rfl | skip)
     | (refine zs ?_; repeat' first | apply zs0 | apply zs2 | (intro hc; try have hq := dq hc)) | fail
    refine lp_then (lp_any (c := loopAt Tryz.f29 0) rfl (key _ 0 _ _ (by omega) ⟨rfl, by (simp only [seval, push_cast, *] <;> rfl), by (simp only [seval, push_cast, *] <;> rfl), by (simp only [seval, push_cast, *] <;> rfl), ⟨rfl⟩⟩)) ?_
    rintro ex ρ' H' ⟨rfl, ⟨he, rfl⟩ | ⟨he, f4, rfl⟩⟩ hf
    · rw [decide_eq_true he]
      clear key he hf
      repeat' first
       | (apply z50 (id := 6) (ord := [0, 1, 2, 3, 4, 5, 6, 7, 8, 9]) <;> first | kernel_rfl | skip)
       | (refine zs ?_; repeat' first | apply zs0 | apply zs2 | (intro hc; try have hq := dq hc)) | fail
    · rw [decide_eq_false he]
      clear key he hf
      repeat' first
       | (apply z50 (id := 6) (ord := [0, 1, 2, 3, 4, 5, 6, 7, 8, 9]) <;> first | kernel_rfl | skip)
       | (refine zs ?_; repeat' first | apply zs0 | apply zs2 | (intro hc; try have hq := dq hc)) | fail
  · have hne : ¬ a = b := fun h => hab (h ▸ rfl)
    have d : (decide ¬ (a.length : Int) = (b.length : Int)) = true := decide_eq_true (by omega)
    rw [decide_eq_false hne]
    clear hla hlb hne hab
    repeat' first
     | (apply z50 (id := 6) (ord := [0, 1, 2, 3, 4, 5, 6, 7, 8, 9]) <;> first | kernel_rfl | skip)
     | (refine zs ?_; repeat' first | apply zs0 | apply zs2 | (intro hc; try have hq := dq hc)) | fail
end Go.E
/- Contracts of the references, in E: copies of lists of lists; limits. Own work. -/
namespace Go.E
open Go.Proofs
set_option maxRecDepth 100000
set_option maxHeartbeats 4000000

theorem bs_copyLists (bs : List Nat) (H : Heap) (l : List (List Int)) (hl : l.length ≤ 1000) (hll : ∀ x ∈ l, x.length ≤ 100000) : callw X bs 22 [.list (l.map encInts)] H = some (.list (l.map encInts), H) := by
  refine call_at (rs := [.tmp 2]) (N := 20) (fn := Tryz.f22) xk22 xf22 rfl rfl rfl (by simp only [seval, push_cast, List.map_cons, List.map_nil, V.norm, norm1]; rfl) ?_
  have key : ∀ (t : HObj) (bs : List Nat) i ρ H', i ≤ l.length → (∃ ls junk, ls = l.take i ∧ H' = H ++ t :: .tok ls.length :: junk ∧ ρ 0 = .list (l.map encInts) ∧ ρ 3 = .tl (H.length + 1) (ls.map encInts) ∧ ρ 4 = .int .i64 i) →
      Lp X ⟨20, bs⟩ (loopAt Tryz.f22 0) ρ H' fun ex ρ' H' => ∃ junk, H' = H ++ t :: .tok l.length :: junk ∧ ex = .exit 0 ∧ ρ' 3 = .tl (H.length + 1) (l.map encInts) := by
    intro t bs
    refine loop_up ?_ ?_
    · rintro i ρ H' hlt ⟨ls, junk, hls, rfl, h0, h3, h4⟩
      have hget : l[i]? = some l[i] := by simp [hlt]
      have hx := hll l[i] (List.getElem_mem hlt)
      have htk : l.take (i + 1) = ls ++ [l[i]] := by rw [List.take_add_one, hget, hls]; rfl
      generalize l[i] = x at hget hx htk
      have t1 := fun bs H => bs_copyInts bs H x (by omega)
      have hlen : ls.length = i := by rw [hls]; simp; omega
      have hroom := room24 ls.length (by omega)
      have hw := add1 i l.length hlt (by omega)
      replace hls : Kp (ls = l.take i) := ⟨hls⟩
      replace htk : Kp (l.take (i + 1) = ls ++ [x]) := ⟨htk⟩
      replace hlen : Kp (ls.length = i) := ⟨hlen⟩
      clear hx hll
      conv => arg 3; whnf
      all_goals try (refine zs ?_; repeat' first | apply zs0 | apply zs2 | (intro hc; try have hq := dq hc))
      exact ⟨ls ++ [x], _, htk.out.symm, by simp only [List.length_append, List.length_singleton]; rfl, by (simp only [seval, push_cast, *] <;> rfl), by simp [push_cast], by (simp only [seval, push_cast, *] <;> rfl)⟩
    · rintro ρ H' ⟨ls, junk, hls, rfl, h0, h3, h4⟩
      rw [List.take_length] at hls
      subst hls
      clear hll
      conv => arg 3; whnf
      all_goals try (refine zs ?_; repeat' first | apply zs0 | apply zs2 | (intro hc; try have hq := dq hc))
      exact ⟨junk, rfl, rfl, by (simp only [seval, push_cast, *] <;> rfl)⟩
  clear hll
  all_goals try (refine zs ?_; repeat' first | apply zs0 | apply zs2 | (intro hc; try have hq := dq hc))
  refine lp_then (lp_any (c := loopAt Tryz.f22 0) rfl (key _ _ 0 _ _ (by omega) ⟨[], [], rfl, rfl, by (simp only [seval, push_cast, *] <;> rfl), by (simp only [seval, push_cast, *] <;> rfl), by (simp only [seval, push_cast, *] <;> rfl)⟩)) ?_
  rintro ex ρ' H' ⟨junk, rfl, rfl, h3⟩ hf
  clear key hf
  all_goals try (refine zs ?_; repeat' first | apply zs0 | apply zs2 | (intro hc; try have hq := dq hc))

theorem la_fewLists (bs : List Nat) (H : Heap) (l : List (List Int)) (m : Nat) (hm : m ≤ 1000) : callw X bs 18 [.list (l.map encInts), .int .i64 m] H = some (.bool (decide (l.length ≤ m) && l.all (fun x => decide (x.length ≤ 45))), H) := by
  refine call_at (rs := [.tmp 4]) (N := 22) (fn := Tryz.f18) xk18 xf18 rfl rfl rfl (by simp only [seval, push_cast, List.map_cons, List.map_nil, V.norm, norm1]; rfl) ?_
  by_cases hl : l.length ≤ m
  · have key : ∀ (R : Bool) (bs : List Nat) i ρ H', i ≤ l.length → (H' = H ∧ ρ 0 = .list (l.map encInts) ∧ ρ 5 = .int .i64 i ∧ Kp ((l.drop i).all (fun x => decide (x.length ≤ 45)) = R)) →
      Lp X ⟨22, bs⟩ (loopAt Tryz.f18 0) ρ H' fun ex ρ' H' => H' = H ∧ ((R = true ∧ ex = .exit 0) ∨ (R = false ∧ ρ' 4 = .bool false ∧ ex = .ret)) := by
      intro R bs
      refine loop_up ?_ ?_
      · rintro i ρ H' hlt ⟨rfl, h0, h5, hk⟩
        have hget : l[i]? = some l[i] := by simp [hlt]
        have hw := add1 i l.length hlt (by omega)
        have hd := drop_cons hget
        replace hk := hk.out
        rw [hd, List.all_cons] at hk
        clear hd
        generalize l[i] = p at hget hk
        rcases Classical.em (p.length ≤ 45) with a | a
        · have hk2 : Kp ((l.drop (i + 1)).all (fun x => decide (x.length ≤ 45)) = R) := ⟨by simpa only [decide_eq_true a, Bool.true_and] using hk⟩
          have b : ¬ (p.length : Int) > 45 := by omega
          clear hk a
          conv => arg 3; whnf
          all_goals try (refine zs ?_; repeat' first | apply zs0 | apply zs2 | (intro hc; try have hq := dq hc))
          exact ⟨rfl, by (simp only [seval, push_cast, *] <;> rfl), by (simp only [seval, push_cast, *] <;> rfl), hk2⟩
        · have hk2 : Kp (R = false) := ⟨by simpa only [decide_eq_false a, Bool.false_and] using hk.symm⟩
          have b : (p.length : Int) > 45 := by omega
          clear hk a
          conv => arg 3; whnf
          all_goals try (refine zs ?_; repeat' first | apply zs0 | apply zs2 | (intro hc; try have hq := dq hc))
          exact ⟨rfl, .inr ⟨hk2.out, by (simp only [seval, push_cast, *] <;> rfl), rfl⟩⟩
      · rintro ρ H' ⟨rfl, h0, h5, hk⟩
        have hk2 : Kp (R = true) := ⟨by have := hk.out; simpa using this.symm⟩
        clear hk
        conv => arg 3; whnf
        all_goals try (refine zs ?_; repeat' first | apply zs0 | apply zs2 | (intro hc; try have hq := dq hc))
        exact ⟨rfl, .inl ⟨hk2.out, rfl⟩⟩
    have d : ¬ (l.length : Int) > (m : Int) := by omega
    rw [decide_eq_true hl, Bool.true_and]
    have hlm : l.length ≤ 1000000 := by omega
    clear hl
    all_goals try (refine zs ?_; repeat' first | apply zs0 | apply zs2 | (intro hc; try have hq := dq hc))
    refine lp_then (lp_any (c := loopAt Tryz.f18 0) rfl (key _ _ 0 _ _ (by omega) ⟨rfl, by (simp only [seval, push_cast, *] <;> rfl), by (simp only [seval, push_cast, *] <;> rfl), ⟨rfl⟩⟩)) ?_
    rintro ex ρ' H' ⟨rfl, ⟨he, rfl⟩ | ⟨he, f4, rfl⟩⟩ hf
    · rw [List.drop_zero] at he
      rw [he]
      clear key he hf
      all_goals try (refine zs ?_; repeat' first | apply zs0 | apply zs2 | (intro hc; try have hq := dq hc))
    · rw [List.drop_zero] at he
      rw [he]
      clear key he hf
      all_goals try (refine zs ?_; repeat' first | apply zs0 | apply zs2 | (intro hc; try have hq := dq hc))
  · have d : (l.length : Int) > (m : Int) := by omega
    rw [decide_eq_false hl, Bool.false_and]
    clear hl
    all_goals try (refine zs ?_; repeat' first | apply zs0 | apply zs2 | (intro hc; try have hq := dq hc))
end Go.E
/- Contracts of the references' base, in E: what operations compute. Own work. -/
namespace Go.E
open Go.Proofs
set_option maxRecDepth 100000
set_option maxHeartbeats 4000000

theorem rem_ne {x : Int} {k : Nat} : ((2 : Int) ^ k = 0) = False := by simp; have := pow_pos' k; omega
theorem tmod_pow {x : Int} {k : Nat} (h : 0 ≤ x) : x.tmod (2 ^ k) = x % 2 ^ k := Int.tmod_eq_emod_of_nonneg h
theorem tdiv_pow {x : Int} {k : Nat} (h : 0 ≤ x) : x.tdiv (2 ^ k) = x / 2 ^ k := Int.tdiv_eq_ediv_of_nonneg h
theorem pw {bs : List Nat} {H : Heap} (W : Int) (h0 : 0 ≤ W) (h16 : W ≤ 16) : callw X bs 145 [.int .i64 W] H = some (.int .i64 (2 ^ W.toNat), H) := by
  have := bs_power bs H W h0
  rwa [shl1_pow (by omega)] at this
theorem wrx {x : Int} (h : -4398046511104 ≤ x ∧ x ≤ 4398046511104) : IntKind.i64.wrap x = x := by rw [wrap64] <;> omega
theorem pow16 {w : Int} (h : w ≤ 16) : (2 : Int) ^ w.toNat ≤ 65536 := by
  have : (2 : Nat) ^ w.toNat ≤ 2 ^ 16 := Nat.pow_le_pow_right (by omega) (by omega)
  have h3 := Int.ofNat_le.2 this
  have c : ((2 ^ 16 : Nat) : Int) = 65536 := by decide
  rw [c] at h3
  simpa using h3

theorem bs_bit (bs : List Nat) (H : Heap) (b : Bool) : callw X bs 206 [.bool b] H = some (.int .i64 (if b = true then 1 else 0), H) := by
  refine call_at (rs := [.tmp 2]) (N := 4) (fn := Tryz.f206) xk206 xf206 rfl rfl rfl (by simp only [seval, push_cast, List.map_cons, List.map_nil, V.norm, norm1]; rfl) ?_
  cases b
  · all_goals try (refine zs ?_; repeat' first | apply zs0 | apply zs2 | (intro hc; try have hq := dq hc))
  · all_goals try (refine zs ?_; repeat' first | apply zs0 | apply zs2 | (intro hc; try have hq := dq hc))
attribute [push_cast] bs_bit

theorem bs_signed (bs : List Nat) (H : Heap) (n w : Int) (hn : InW n w) (h1 : 1 ≤ w) (h16 : w ≤ 16) : callw X bs 207 [.int .i64 n, .int .i64 w] H = some (.int .i64 (sgn n w), H) := by
  refine call_at (rs := [.tmp 4]) (N := 15) (fn := Tryz.f207) xk207 xf207 rfl rfl rfl (by simp only [seval, push_cast, List.map_cons, List.map_nil, V.norm, norm1]; rfl) ?_
  have e0 : IntKind.i64.wrap (w - 1) = w - 1 := by rw [wrap64] <;> omega
  have e2 : (w - 1).toNat = w.toNat - 1 := by omega
  have t1 := fun bs H => pw (bs := bs) (H := H) (w - 1) (by omega) (by omega)
  have t2 := fun bs H => pw (bs := bs) (H := H) w (by omega) h16
  rw [e2] at t1
  have h2 := pow16 h16
  have h3 := pow_pos' w.toNat
  have e3 := wrx (x := n - 2 ^ w.toNat) (by have := hn.1; have := hn.2; omega)
  unfold sgn
  by_cases hc : 2 ^ (w.toNat - 1) ≤ n
  · have d : decide (n ≥ 2 ^ (w.toNat - 1)) = true := decide_eq_true hc
    rw [if_pos hc]
    clear hc hn h2 h3 e2
    all_goals try (refine zs ?_; repeat' first | apply zs0 | apply zs2 | (intro hc; try have hq := dq hc))
  · have d : decide (n ≥ 2 ^ (w.toNat - 1)) = false := decide_eq_false hc
    rw [if_neg hc]
    clear hc hn h2 h3 e2
    all_goals try (refine zs ?_; repeat' first | apply zs0 | apply zs2 | (intro hc; try have hq := dq hc))

theorem ap_0 (bs : List Nat) (H : Heap) (W v : Int) (ar a w lv : List V) (h0 : 0 ≤ W) (h16 : W ≤ 16) : callw X bs 153 [.agg [.int .i64 0, .int .i64 W, .list ar, .int .i64 v], .list a, .list w, .list lv] H = some (.int .i64 v, H) := by
  refine call_at (rs := [.tmp 8]) (N := 221) (fn := Tryz.f153) xk153 xf153 rfl rfl rfl (by simp only [seval, push_cast, List.map_cons, List.map_nil, V.norm, norm1]; rfl) ?_
  have t1 := fun bs H => pw (bs := bs) (H := H) W h0 h16
  repeat' first
   | (apply z50 (id := 10) (ord := [0, 1, 2, 3, 4, 5, 6, 7]) <;> first | kernel_rfl | skip)
   | (apply z50 (id := 12) (ord := [0, 1, 2, 3, 4, 5, 6, 7]) <;> first | kernel_rfl | skip)
   | (apply z50 (id := 14) (ord := [0, 1, 2, 3, 4, 5, 6, 7]) <;> first | kernel_rfl | skip)
   | (apply z50 (id := 16) (ord := [0, 1, 2, 3, 4, 5, 6, 7, 8, 9]) <;> first | kernel_rfl | skip)
   | (apply z50 (id := 18) (ord := [0, 1, 2, 3, 4, 5, 6, 7, 8, 9, 10, 11]) <;> first | kernel_rfl | skip)
   | (apply z50 (id := 20) (ord := [0, 1, 2, 3, 4, 5, 6, 7, 8, 9]) <;> first | kernel_rfl | skip)
   | (apply z50 (id := 22) (ord := [0, 1, 2, 3, 4, 5, 6, 7, 8]) <;> first | kernel_rfl | skip)
   | (apply z50 (id := 24) (ord := [0, 1, 2, 3, 4, 5, 6, 7, 8]) <;> first | kernel_rfl | skip)
   | (apply z51 (id := 26) (ord := [0, 1, 2, 3, 4, 5, 7, 8, 9, 10, 11, 12, 6, 13, 14, 15, 16]) (ps := [(8, 12), (11, 12)]) <;> first | kernel_rfl | skip)
   | (apply z51 (id := 32) (ord := [0, 1, 2, 3, 4, 5, 8, 9, 10, 6, 7, 11, 12]) (ps := [(2, 9), (8, 9)]) <;> first | kernel_rfl | skip)
   | (apply z51 (id := 34) (ord := [0, 1, 2, 3, 4, 7, 5, 6, 8, 9]) (ps := [(2, 6)]) <;> first | kernel_rfl | skip)
   | (apply z50 (id := 38) (ord := [0, 1, 2, 3, 4, 5, 7, 9, 6, 8, 10, 11]) <;> first | kernel_rfl | skip)
   | (apply z50 (id := 40) (ord := [0, 1, 2, 3, 4, 5]) <;> first | kernel_rfl | skip)
   | (apply z51 (id := 42) (ord := [0, 1, 2, 3, 4, 5, 8, 6, 7, 9, 10]) (ps := [(2, 7)]) <;> first | kernel_rfl | skip)
   | (apply z50 (id := 43) (ord := [0, 1, 2, 3, 4, 5]) <;> first | kernel_rfl | skip)
   | (apply z51 (id := 45) (ord := [0, 1, 2, 3, 4, 5, 6, 7, 8]) (ps := [(2, 6)]) <;> first | kernel_rfl | skip)
   | (refine zs ?_; repeat' first | apply zs0 | apply zs2 | (intro hc; try have hq := dq hc)) | fail

theorem ap_1 (bs : List Nat) (H : Heap) (W : Int) (v : Nat) (z : Int) (ar a w : List V) (lv : List Int) (h0 : 0 ≤ W) (h16 : W ≤ 16) (hg : lv[v]? = some z) : callw X bs 153 [.agg [.int .i64 1, .int .i64 W, .list ar, .int .i64 v], .list a, .list w, .list (lv.map (.int .i64))] H = some (.int .i64 z, H) := by
  refine call_at (rs := [.tmp 8]) (N := 221) (fn := Tryz.f153) xk153 xf153 rfl rfl rfl (by simp only [seval, push_cast, List.map_cons, List.map_nil, V.norm, norm1]; rfl) ?_
  have t1 := fun bs H => pw (bs := bs) (H := H) W h0 h16
  repeat' first
   | (apply z50 (id := 10) (ord := [0, 1, 2, 3, 4, 5, 6, 7]) <;> first | kernel_rfl | skip)
   | (apply z50 (id := 12) (ord := [0, 1, 2, 3, 4, 5, 6, 7]) <;> first | kernel_rfl | skip)
   | (apply z50 (id := 14) (ord := [0, 1, 2, 3, 4, 5, 6, 7]) <;> first | kernel_rfl | skip)
   | (apply z50 (id := 16) (ord := [0, 1, 2, 3, 4, 5, 6, 7, 8, 9]) <;> first | kernel_rfl | skip)
   | (apply z50 (id := 18) (ord := [0, 1, 2, 3, 4, 5, 6, 7, 8, 9, 10, 11]) <;> first | kernel_rfl | skip)
   | (apply z50 (id := 20) (ord := [0, 1, 2, 3, 4, 5, 6, 7, 8, 9]) <;> first | kernel_rfl | skip)
   | (apply z50 (id := 22) (ord := [0, 1, 2, 3, 4, 5, 6, 7, 8]) <;> first | kernel_rfl | skip)
   | (apply z50 (id := 24) (ord := [0, 1, 2, 3, 4, 5, 6, 7, 8]) <;> first | kernel_rfl | skip)
   | (apply z51 (id := 26) (ord := [0, 1, 2, 3, 4, 5, 7, 8, 9, 10, 11, 12, 6, 13, 14, 15, 16]) (ps := [(8, 12), (11, 12)]) <;> first | kernel_rfl | skip)
   | (apply z51 (id := 32) (ord := [0, 1, 2, 3, 4, 5, 8, 9, 10, 6, 7, 11, 12]) (ps := [(2, 9), (8, 9)]) <;> first | kernel_rfl | skip)
   | (apply z51 (id := 34) (ord := [0, 1, 2, 3, 4, 7, 5, 6, 8, 9]) (ps := [(2, 6)]) <;> first | kernel_rfl | skip)
   | (apply z50 (id := 38) (ord := [0, 1, 2, 3, 4, 5, 7, 9, 6, 8, 10, 11]) <;> first | kernel_rfl | skip)
   | (apply z50 (id := 40) (ord := [0, 1, 2, 3, 4, 5]) <;> first | kernel_rfl | skip)
   | (apply z51 (id := 42) (ord := [0, 1, 2, 3, 4, 5, 8, 6, 7, 9, 10]) (ps := [(2, 7)]) <;> first | kernel_rfl | skip)
   | (apply z50 (id := 43) (ord := [0, 1, 2, 3, 4, 5]) <;> first | kernel_rfl | skip)
   | (apply z51 (id := 45) (ord := [0, 1, 2, 3, 4, 5, 6, 7, 8]) (ps := [(2, 6)]) <;> first | kernel_rfl | skip)
   | (refine zs ?_; repeat' first | apply zs0 | apply zs2 | (intro hc; try have hq := dq hc)) | fail

theorem ap_2 (bs : List Nat) (H : Heap) (W v x : Int) (ar w lv : List V) (h0 : 0 ≤ W) (h16 : W ≤ 16) (hx : InW x W) : callw X bs 153 [.agg [.int .i64 2, .int .i64 W, .list ar, .int .i64 v], .list [.int .i64 x], .list w, .list lv] H = some (.int .i64 (2 ^ W.toNat - 1 - x), H) := by
  refine call_at (rs := [.tmp 8]) (N := 221) (fn := Tryz.f153) xk153 xf153 rfl rfl rfl (by simp only [seval, push_cast, List.map_cons, List.map_nil, V.norm, norm1]; rfl) ?_
  have t1 := fun bs H => pw (bs := bs) (H := H) W h0 h16
  have h2 := pow16 h16
  have h3 := pow_pos' W.toNat
  obtain ⟨x0, x1⟩ := hx
  have e1 := wrx (x := 2 ^ W.toNat - 1) (by omega)
  have e2 := wrx (x := 2 ^ W.toNat - 1 - x) (by omega)
  clear x0 x1 h2 h3
  repeat' first
   | (apply z50 (id := 10) (ord := [0, 1, 2, 3, 4, 5, 6, 7]) <;> first | kernel_rfl | skip)
   | (apply z50 (id := 12) (ord := [0, 1, 2, 3, 4, 5, 6, 7]) <;> first | kernel_rfl | skip)
   | (apply z50 (id := 14) (ord := [0, 1, 2, 3, 4, 5, 6, 7]) <;> first | kernel_rfl | skip)
   | (apply z50 (id := 16) (ord := [0, 1, 2, 3, 4, 5, 6, 7, 8, 9]) <;> first | kernel_rfl | skip)
   | (apply z50 (id := 18) (ord := [0, 1, 2, 3, 4, 5, 6, 7, 8, 9, 10, 11]) <;> first | kernel_rfl | skip)
   | (apply z50 (id := 20) (ord := [0, 1, 2, 3, 4, 5, 6, 7, 8, 9]) <;> first | kernel_rfl | skip)
   | (apply z50 (id := 22) (ord := [0, 1, 2, 3, 4, 5, 6, 7, 8]) <;> first | kernel_rfl | skip)
   | (apply z50 (id := 24) (ord := [0, 1, 2, 3, 4, 5, 6, 7, 8]) <;> first | kernel_rfl | skip)
   | (apply z51 (id := 26) (ord := [0, 1, 2, 3, 4, 5, 7, 8, 9, 10, 11, 12, 6, 13, 14, 15, 16]) (ps := [(8, 12), (11, 12)]) <;> first | kernel_rfl | skip)
   | (apply z51 (id := 32) (ord := [0, 1, 2, 3, 4, 5, 8, 9, 10, 6, 7, 11, 12]) (ps := [(2, 9), (8, 9)]) <;> first | kernel_rfl | skip)
   | (apply z51 (id := 34) (ord := [0, 1, 2, 3, 4, 7, 5, 6, 8, 9]) (ps := [(2, 6)]) <;> first | kernel_rfl | skip)
   | (apply z50 (id := 38) (ord := [0, 1, 2, 3, 4, 5, 7, 9, 6, 8, 10, 11]) <;> first | kernel_rfl | skip)
   | (apply z50 (id := 40) (ord := [0, 1, 2, 3, 4, 5]) <;> first | kernel_rfl | skip)
   | (apply z51 (id := 42) (ord := [0, 1, 2, 3, 4, 5, 8, 6, 7, 9, 10]) (ps := [(2, 7)]) <;> first | kernel_rfl | skip)
   | (apply z50 (id := 43) (ord := [0, 1, 2, 3, 4, 5]) <;> first | kernel_rfl | skip)
   | (apply z51 (id := 45) (ord := [0, 1, 2, 3, 4, 5, 6, 7, 8]) (ps := [(2, 6)]) <;> first | kernel_rfl | skip)
   | (refine zs ?_; repeat' first | apply zs0 | apply zs2 | (intro hc; try have hq := dq hc)) | fail

theorem ap_3 (bs : List Nat) (H : Heap) (W v x y : Int) (ar w lv : List V) (h0 : 0 ≤ W) (h16 : W ≤ 16) : callw X bs 153 [.agg [.int .i64 3, .int .i64 W, .list ar, .int .i64 v], .list [.int .i64 x, .int .i64 y], .list w, .list lv] H = some (.int .i64 (bitsI .and .i64 x y), H) := by
  refine call_at (rs := [.tmp 8]) (N := 221) (fn := Tryz.f153) xk153 xf153 rfl rfl rfl (by simp only [seval, push_cast, List.map_cons, List.map_nil, V.norm, norm1]; rfl) ?_
  have t1 := fun bs H => pw (bs := bs) (H := H) W h0 h16
  repeat' first
   | (apply z50 (id := 10) (ord := [0, 1, 2, 3, 4, 5, 6, 7]) <;> first | kernel_rfl | skip)
   | (apply z50 (id := 12) (ord := [0, 1, 2, 3, 4, 5, 6, 7]) <;> first | kernel_rfl | skip)
   | (apply z50 (id := 14) (ord := [0, 1, 2, 3, 4, 5, 6, 7]) <;> first | kernel_rfl | skip)
   | (apply z50 (id := 16) (ord := [0, 1, 2, 3, 4, 5, 6, 7, 8, 9]) <;> first | kernel_rfl | skip)
   | (apply z50 (id := 18) (ord := [0, 1, 2, 3, 4, 5, 6, 7, 8, 9, 10, 11]) <;> first | kernel_rfl | skip)
   | (apply z50 (id := 20) (ord := [0, 1, 2, 3, 4, 5, 6, 7, 8, 9]) <;> first | kernel_rfl | skip)
   | (apply z50 (id := 22) (ord := [0, 1, 2, 3, 4, 5, 6, 7, 8]) <;> first | kernel_rfl | skip)
   | (apply z50 (id := 24) (ord := [0, 1, 2, 3, 4, 5, 6, 7, 8]) <;> first | kernel_rfl | skip)
   | (apply z51 (id := 26) (ord := [0, 1, 2, 3, 4, 5, 7, 8, 9, 10, 11, 12, 6, 13, 14, 15, 16]) (ps := [(8, 12), (11, 12)]) <;> first | kernel_rfl | skip)
   | (apply z51 (id := 32) (ord := [0, 1, 2, 3, 4, 5, 8, 9, 10, 6, 7, 11, 12]) (ps := [(2, 9), (8, 9)]) <;> first | kernel_rfl | skip)
   | (apply z51 (id := 34) (ord := [0, 1, 2, 3, 4, 7, 5, 6, 8, 9]) (ps := [(2, 6)]) <;> first | kernel_rfl | skip)
   | (apply z50 (id := 38) (ord := [0, 1, 2, 3, 4, 5, 7, 9, 6, 8, 10, 11]) <;> first | kernel_rfl | skip)
   | (apply z50 (id := 40) (ord := [0, 1, 2, 3, 4, 5]) <;> first | kernel_rfl | skip)
   | (apply z51 (id := 42) (ord := [0, 1, 2, 3, 4, 5, 8, 6, 7, 9, 10]) (ps := [(2, 7)]) <;> first | kernel_rfl | skip)
   | (apply z50 (id := 43) (ord := [0, 1, 2, 3, 4, 5]) <;> first | kernel_rfl | skip)
   | (apply z51 (id := 45) (ord := [0, 1, 2, 3, 4, 5, 6, 7, 8]) (ps := [(2, 6)]) <;> first | kernel_rfl | skip)
   | (refine zs ?_; repeat' first | apply zs0 | apply zs2 | (intro hc; try have hq := dq hc)) | fail

theorem ap_4 (bs : List Nat) (H : Heap) (W v x y : Int) (ar w lv : List V) (h0 : 0 ≤ W) (h16 : W ≤ 16) : callw X bs 153 [.agg [.int .i64 4, .int .i64 W, .list ar, .int .i64 v], .list [.int .i64 x, .int .i64 y], .list w, .list lv] H = some (.int .i64 (bitsI .or .i64 x y), H) := by
  refine call_at (rs := [.tmp 8]) (N := 221) (fn := Tryz.f153) xk153 xf153 rfl rfl rfl (by simp only [seval, push_cast, List.map_cons, List.map_nil, V.norm, norm1]; rfl) ?_
  have t1 := fun bs H => pw (bs := bs) (H := H) W h0 h16
  repeat' first
   | (apply z50 (id := 10) (ord := [0, 1, 2, 3, 4, 5, 6, 7]) <;> first | kernel_rfl | skip)
   | (apply z50 (id := 12) (ord := [0, 1, 2, 3, 4, 5, 6, 7]) <;> first | kernel_rfl | skip)
   | (apply z50 (id := 14) (ord := [0, 1, 2, 3, 4, 5, 6, 7]) <;> first | kernel_rfl | skip)
   | (apply z50 (id := 16) (ord := [0, 1, 2, 3, 4, 5, 6, 7, 8, 9]) <;> first | kernel_rfl | skip)
   | (apply z50 (id := 18) (ord := [0, 1, 2, 3, 4, 5, 6, 7, 8, 9, 10, 11]) <;> first | kernel_rfl | skip)
   | (apply z50 (id := 20) (ord := [0, 1, 2, 3, 4, 5, 6, 7, 8, 9]) <;> first | kernel_rfl | skip)
   | (apply z50 (id := 22) (ord := [0, 1, 2, 3, 4, 5, 6, 7, 8]) <;> first | kernel_rfl | skip)
   | (apply z50 (id := 24) (ord := [0, 1, 2, 3, 4, 5, 6, 7, 8]) <;> first | kernel_rfl | skip)
   | (apply z51 (id := 26) (ord := [0, 1, 2, 3, 4, 5, 7, 8, 9, 10, 11, 12, 6, 13, 14, 15, 16]) (ps := [(8, 12), (11, 12)]) <;> first | kernel_rfl | skip)
   | (apply z51 (id := 32) (ord := [0, 1, 2, 3, 4, 5, 8, 9, 10, 6, 7, 11, 12]) (ps := [(2, 9), (8, 9)]) <;> first | kernel_rfl | skip)
   | (apply z51 (id := 34) (ord := [0, 1, 2, 3, 4, 7, 5, 6, 8, 9]) (ps := [(2, 6)]) <;> first | kernel_rfl | skip)
   | (apply z50 (id := 38) (ord := [0, 1, 2, 3, 4, 5, 7, 9, 6, 8, 10, 11]) <;> first | kernel_rfl | skip)
   | (apply z50 (id := 40) (ord := [0, 1, 2, 3, 4, 5]) <;> first | kernel_rfl | skip)
   | (apply z51 (id := 42) (ord := [0, 1, 2, 3, 4, 5, 8, 6, 7, 9, 10]) (ps := [(2, 7)]) <;> first | kernel_rfl | skip)
   | (apply z50 (id := 43) (ord := [0, 1, 2, 3, 4, 5]) <;> first | kernel_rfl | skip)
   | (apply z51 (id := 45) (ord := [0, 1, 2, 3, 4, 5, 6, 7, 8]) (ps := [(2, 6)]) <;> first | kernel_rfl | skip)
   | (refine zs ?_; repeat' first | apply zs0 | apply zs2 | (intro hc; try have hq := dq hc)) | fail

theorem ap_5 (bs : List Nat) (H : Heap) (W v x y : Int) (ar w lv : List V) (h0 : 0 ≤ W) (h16 : W ≤ 16) : callw X bs 153 [.agg [.int .i64 5, .int .i64 W, .list ar, .int .i64 v], .list [.int .i64 x, .int .i64 y], .list w, .list lv] H = some (.int .i64 (bitsI .xor .i64 x y), H) := by
  refine call_at (rs := [.tmp 8]) (N := 221) (fn := Tryz.f153) xk153 xf153 rfl rfl rfl (by simp only [seval, push_cast, List.map_cons, List.map_nil, V.norm, norm1]; rfl) ?_
  have t1 := fun bs H => pw (bs := bs) (H := H) W h0 h16
  repeat' first
   | (apply z50 (id := 10) (ord := [0, 1, 2, 3, 4, 5, 6, 7]) <;> first | kernel_rfl | skip)
   | (apply z50 (id := 12) (ord := [0, 1, 2, 3, 4, 5, 6, 7]) <;> first | kernel_rfl | skip)
   | (apply z50 (id := 14) (ord := [0, 1, 2, 3, 4, 5, 6, 7]) <;> first | kernel_rfl | skip)
   | (apply z50 (id := 16) (ord := [0, 1, 2, 3, 4, 5, 6, 7, 8, 9]) <;> first | kernel_rfl | skip)
   | (apply z50 (id := 18) (ord := [0, 1, 2, 3, 4, 5, 6, 7, 8, 9, 10, 11]) <;> first | kernel_rfl | skip)
   | (apply z50 (id := 20) (ord := [0, 1, 2, 3, 4, 5, 6, 7, 8, 9]) <;> first | kernel_rfl | skip)
   | (apply z50 (id := 22) (ord := [0, 1, 2, 3, 4, 5, 6, 7, 8]) <;> first | kernel_rfl | skip)
   | (apply z50 (id := 24) (ord := [0, 1, 2, 3, 4, 5, 6, 7, 8]) <;> first | kernel_rfl | skip)
   | (apply z51 (id := 26) (ord := [0, 1, 2, 3, 4, 5, 7, 8, 9, 10, 11, 12, 6, 13, 14, 15, 16]) (ps := [(8, 12), (11, 12)]) <;> first | kernel_rfl | skip)
   | (apply z51 (id := 32) (ord := [0, 1, 2, 3, 4, 5, 8, 9, 10, 6, 7, 11, 12]) (ps := [(2, 9), (8, 9)]) <;> first | kernel_rfl | skip)
   | (apply z51 (id := 34) (ord := [0, 1, 2, 3, 4, 7, 5, 6, 8, 9]) (ps := [(2, 6)]) <;> first | kernel_rfl | skip)
   | (apply z50 (id := 38) (ord := [0, 1, 2, 3, 4, 5, 7, 9, 6, 8, 10, 11]) <;> first | kernel_rfl | skip)
   | (apply z50 (id := 40) (ord := [0, 1, 2, 3, 4, 5]) <;> first | kernel_rfl | skip)
   | (apply z51 (id := 42) (ord := [0, 1, 2, 3, 4, 5, 8, 6, 7, 9, 10]) (ps := [(2, 7)]) <;> first | kernel_rfl | skip)
   | (apply z50 (id := 43) (ord := [0, 1, 2, 3, 4, 5]) <;> first | kernel_rfl | skip)
   | (apply z51 (id := 45) (ord := [0, 1, 2, 3, 4, 5, 6, 7, 8]) (ps := [(2, 6)]) <;> first | kernel_rfl | skip)
   | (refine zs ?_; repeat' first | apply zs0 | apply zs2 | (intro hc; try have hq := dq hc)) | fail

theorem ap_6 (bs : List Nat) (H : Heap) (W v x y : Int) (ar w lv : List V) (h0 : 0 ≤ W) (h16 : W ≤ 16) (hx : 0 ≤ x ∧ x < 65536) (hy : 0 ≤ y ∧ y < 65536) : callw X bs 153 [.agg [.int .i64 6, .int .i64 W, .list ar, .int .i64 v], .list [.int .i64 x, .int .i64 y], .list w, .list lv] H = some (.int .i64 ((x + y) % 2 ^ W.toNat), H) := by
  refine call_at (rs := [.tmp 8]) (N := 221) (fn := Tryz.f153) xk153 xf153 rfl rfl rfl (by simp only [seval, push_cast, List.map_cons, List.map_nil, V.norm, norm1]; rfl) ?_
  have t1 := fun bs H => pw (bs := bs) (H := H) W h0 h16
  have e1 := wrx (x := x + y) (by omega)
  have e2 := rem_ne (x := 0) (k := W.toNat)
  have e3 := tmod_pow (x := x + y) (k := W.toNat) (by omega)
  clear hx hy
  repeat' first
   | (apply z50 (id := 10) (ord := [0, 1, 2, 3, 4, 5, 6, 7]) <;> first | kernel_rfl | skip)
   | (apply z50 (id := 12) (ord := [0, 1, 2, 3, 4, 5, 6, 7]) <;> first | kernel_rfl | skip)
   | (apply z50 (id := 14) (ord := [0, 1, 2, 3, 4, 5, 6, 7]) <;> first | kernel_rfl | skip)
   | (apply z50 (id := 16) (ord := [0, 1, 2, 3, 4, 5, 6, 7, 8, 9]) <;> first | kernel_rfl | skip)
   | (apply z50 (id := 18) (ord := [0, 1, 2, 3, 4, 5, 6, 7, 8, 9, 10, 11]) <;> first | kernel_rfl | skip)
   | (apply z50 (id := 20) (ord := [0, 1, 2, 3, 4, 5, 6, 7, 8, 9]) <;> first | kernel_rfl | skip)
   | (apply z50 (id := 22) (ord := [0, 1, 2, 3, 4, 5, 6, 7, 8]) <;> first | kernel_rfl | skip)
   | (apply z50 (id := 24) (ord := [0, 1, 2, 3, 4, 5, 6, 7, 8]) <;> first | kernel_rfl | skip)
   | (apply z51 (id := 26) (ord := [0, 1, 2, 3, 4, 5, 7, 8, 9, 10, 11, 12, 6, 13, 14, 15, 16]) (ps := [(8, 12), (11, 12)]) <;> first | kernel_rfl | skip)
   | (apply z51 (id := 32) (ord := [0, 1, 2, 3, 4, 5, 8, 9, 10, 6, 7, 11, 12]) (ps := [(2, 9), (8, 9)]) <;> first | kernel_rfl | skip)
   | (apply z51 (id := 34) (ord := [0, 1, 2, 3, 4, 7, 5, 6, 8, 9]) (ps := [(2, 6)]) <;> first | kernel_rfl | skip)
   | (apply z50 (id := 38) (ord := [0, 1, 2, 3, 4, 5, 7, 9, 6, 8, 10, 11]) <;> first | kernel_rfl | skip)
   | (apply z50 (id := 40) (ord := [0, 1, 2, 3, 4, 5]) <;> first | kernel_rfl | skip)
   | (apply z51 (id := 42) (ord := [0, 1, 2, 3, 4, 5, 8, 6, 7, 9, 10]) (ps := [(2, 7)]) <;> first | kernel_rfl | skip)
   | (apply z50 (id := 43) (ord := [0, 1, 2, 3, 4, 5]) <;> first | kernel_rfl | skip)
   | (apply z51 (id := 45) (ord := [0, 1, 2, 3, 4, 5, 6, 7, 8]) (ps := [(2, 6)]) <;> first | kernel_rfl | skip)
   | (refine zs ?_; repeat' first | apply zs0 | apply zs2 | (intro hc; try have hq := dq hc)) | fail

theorem ap_7 (bs : List Nat) (H : Heap) (W v x y : Int) (ar w lv : List V) (h0 : 0 ≤ W) (h16 : W ≤ 16) (hx : InW x W) (hy : InW y W) : callw X bs 153 [.agg [.int .i64 7, .int .i64 W, .list ar, .int .i64 v], .list [.int .i64 x, .int .i64 y], .list w, .list lv] H = some (.int .i64 ((x - y) % 2 ^ W.toNat), H) := by
  refine call_at (rs := [.tmp 8]) (N := 221) (fn := Tryz.f153) xk153 xf153 rfl rfl rfl (by simp only [seval, push_cast, List.map_cons, List.map_nil, V.norm, norm1]; rfl) ?_
  have t1 := fun bs H => pw (bs := bs) (H := H) W h0 h16
  have h2 := pow16 h16
  obtain ⟨x0, x1⟩ := hx
  obtain ⟨y0, y1⟩ := hy
  have e1 := wrx (x := x - y) (by omega)
  have e4 := wrx (x := x - y + 2 ^ W.toNat) (by omega)
  have e2 := rem_ne (x := 0) (k := W.toNat)
  have e3 := tmod_pow (x := x - y + 2 ^ W.toNat) (k := W.toNat) (by omega)
  rw [Int.add_emod_right] at e3
  clear x0 x1 y0 y1 h2
  repeat' first
   | (apply z50 (id := 10) (ord := [0, 1, 2, 3, 4, 5, 6, 7]) <;> first | kernel_rfl | skip)
   | (apply z50 (id := 12) (ord := [0, 1, 2, 3, 4, 5, 6, 7]) <;> first | kernel_rfl | skip)
   | (apply z50 (id := 14) (ord := [0, 1, 2, 3, 4, 5, 6, 7]) <;> first | kernel_rfl | skip)
   | (apply z50 (id := 16) (ord := [0, 1, 2, 3, 4, 5, 6, 7, 8, 9]) <;> first | kernel_rfl | skip)
   | (apply z50 (id := 18) (ord := [0, 1, 2, 3, 4, 5, 6, 7, 8, 9, 10, 11]) <;> first | kernel_rfl | skip)
   | (apply z50 (id := 20) (ord := [0, 1, 2, 3, 4, 5, 6, 7, 8, 9]) <;> first | kernel_rfl | skip)
   | (apply z50 (id := 22) (ord := [0, 1, 2, 3, 4, 5, 6, 7, 8]) <;> first | kernel_rfl | skip)
   | (apply z50 (id := 24) (ord := [0, 1, 2, 3, 4, 5, 6, 7, 8]) <;> first | kernel_rfl | skip)
   | (apply z51 (id := 26) (ord := [0, 1, 2, 3, 4, 5, 7, 8, 9, 10, 11, 12, 6, 13, 14, 15, 16]) (ps := [(8, 12), (11, 12)]) <;> first | kernel_rfl | skip)
   | (apply z51 (id := 32) (ord := [0, 1, 2, 3, 4, 5, 8, 9, 10, 6, 7, 11, 12]) (ps := [(2, 9), (8, 9)]) <;> first | kernel_rfl | skip)
   | (apply z51 (id := 34) (ord := [0, 1, 2, 3, 4, 7, 5, 6, 8, 9]) (ps := [(2, 6)]) <;> first | kernel_rfl | skip)
   | (apply z50 (id := 38) (ord := [0, 1, 2, 3, 4, 5, 7, 9, 6, 8, 10, 11]) <;> first | kernel_rfl | skip)
   | (apply z50 (id := 40) (ord := [0, 1, 2, 3, 4, 5]) <;> first | kernel_rfl | skip)
   | (apply z51 (id := 42) (ord := [0, 1, 2, 3, 4, 5, 8, 6, 7, 9, 10]) (ps := [(2, 7)]) <;> first | kernel_rfl | skip)
   | (apply z50 (id := 43) (ord := [0, 1, 2, 3, 4, 5]) <;> first | kernel_rfl | skip)
   | (apply z51 (id := 45) (ord := [0, 1, 2, 3, 4, 5, 6, 7, 8]) (ps := [(2, 6)]) <;> first | kernel_rfl | skip)
   | (refine zs ?_; repeat' first | apply zs0 | apply zs2 | (intro hc; try have hq := dq hc)) | fail

theorem ap_8 (bs : List Nat) (H : Heap) (W v x y : Int) (ar w lv : List V) (h0 : 0 ≤ W) (h16 : W ≤ 16) (hx : 0 ≤ x ∧ x < 65536) (hy : 0 ≤ y ∧ y < 65536) : callw X bs 153 [.agg [.int .i64 8, .int .i64 W, .list ar, .int .i64 v], .list [.int .i64 x, .int .i64 y], .list w, .list lv] H = some (.int .i64 (x * y % 2 ^ W.toNat), H) := by
  refine call_at (rs := [.tmp 8]) (N := 221) (fn := Tryz.f153) xk153 xf153 rfl rfl rfl (by simp only [seval, push_cast, List.map_cons, List.map_nil, V.norm, norm1]; rfl) ?_
  have t1 := fun bs H => pw (bs := bs) (H := H) W h0 h16
  have h1 : x * y ≤ 65536 * 65536 := Int.le_trans (Int.mul_le_mul_of_nonneg_right (by omega) hy.1) (Int.mul_le_mul_of_nonneg_left (by omega) (by omega))
  have h2 := Int.mul_nonneg hx.1 hy.1
  have e1 := wrx (x := x * y) (by omega)
  have e2 := rem_ne (x := 0) (k := W.toNat)
  have e3 := tmod_pow (x := x * y) (k := W.toNat) h2
  clear hx hy h1 h2
  repeat' first
   | (apply z50 (id := 10) (ord := [0, 1, 2, 3, 4, 5, 6, 7]) <;> first | kernel_rfl | skip)
   | (apply z50 (id := 12) (ord := [0, 1, 2, 3, 4, 5, 6, 7]) <;> first | kernel_rfl | skip)
   | (apply z50 (id := 14) (ord := [0, 1, 2, 3, 4, 5, 6, 7]) <;> first | kernel_rfl | skip)
   | (apply z50 (id := 16) (ord := [0, 1, 2, 3, 4, 5, 6, 7, 8, 9]) <;> first | kernel_rfl | skip)
   | (apply z50 (id := 18) (ord := [0, 1, 2, 3, 4, 5, 6, 7, 8, 9, 10, 11]) <;> first | kernel_rfl | skip)
   | (apply z50 (id := 20) (ord := [0, 1, 2, 3, 4, 5, 6, 7, 8, 9]) <;> first | kernel_rfl | skip)
   | (apply z50 (id := 22) (ord := [0, 1, 2, 3, 4, 5, 6, 7, 8]) <;> first | kernel_rfl | skip)
   | (apply z50 (id := 24) (ord := [0, 1, 2, 3, 4, 5, 6, 7, 8]) <;> first | kernel_rfl | skip)
   | (apply z51 (id := 26) (ord := [0, 1, 2, 3, 4, 5, 7, 8, 9, 10, 11, 12, 6, 13, 14, 15, 16]) (ps := [(8, 12), (11, 12)]) <;> first | kernel_rfl | skip)
   | (apply z51 (id := 32) (ord := [0, 1, 2, 3, 4, 5, 8, 9, 10, 6, 7, 11, 12]) (ps := [(2, 9), (8, 9)]) <;> first | kernel_rfl | skip)
   | (apply z51 (id := 34) (ord := [0, 1, 2, 3, 4, 7, 5, 6, 8, 9]) (ps := [(2, 6)]) <;> first | kernel_rfl | skip)
   | (apply z50 (id := 38) (ord := [0, 1, 2, 3, 4, 5, 7, 9, 6, 8, 10, 11]) <;> first | kernel_rfl | skip)
   | (apply z50 (id := 40) (ord := [0, 1, 2, 3, 4, 5]) <;> first | kernel_rfl | skip)
   | (apply z51 (id := 42) (ord := [0, 1, 2, 3, 4, 5, 8, 6, 7, 9, 10]) (ps := [(2, 7)]) <;> first | kernel_rfl | skip)
   | (apply z50 (id := 43) (ord := [0, 1, 2, 3, 4, 5]) <;> first | kernel_rfl | skip)
   | (apply z51 (id := 45) (ord := [0, 1, 2, 3, 4, 5, 6, 7, 8]) (ps := [(2, 6)]) <;> first | kernel_rfl | skip)
   | (refine zs ?_; repeat' first | apply zs0 | apply zs2 | (intro hc; try have hq := dq hc)) | fail

theorem ap_9 (bs : List Nat) (H : Heap) (W v x y : Int) (ar w lv : List V) (h0 : 0 ≤ W) (h16 : W ≤ 16) : callw X bs 153 [.agg [.int .i64 9, .int .i64 W, .list ar, .int .i64 v], .list [.int .i64 x, .int .i64 y], .list w, .list lv] H = some (.int .i64 (if decide (x = y) = true then 1 else 0), H) := by
  refine call_at (rs := [.tmp 8]) (N := 221) (fn := Tryz.f153) xk153 xf153 rfl rfl rfl (by simp only [seval, push_cast, List.map_cons, List.map_nil, V.norm, norm1]; rfl) ?_
  have t1 := fun bs H => pw (bs := bs) (H := H) W h0 h16
  repeat' first
   | (apply z50 (id := 10) (ord := [0, 1, 2, 3, 4, 5, 6, 7]) <;> first | kernel_rfl | skip)
   | (apply z50 (id := 12) (ord := [0, 1, 2, 3, 4, 5, 6, 7]) <;> first | kernel_rfl | skip)
   | (apply z50 (id := 14) (ord := [0, 1, 2, 3, 4, 5, 6, 7]) <;> first | kernel_rfl | skip)
   | (apply z50 (id := 16) (ord := [0, 1, 2, 3, 4, 5, 6, 7, 8, 9]) <;> first | kernel_rfl | skip)
   | (apply z50 (id := 18) (ord := [0, 1, 2, 3, 4, 5, 6, 7, 8, 9, 10, 11]) <;> first | kernel_rfl | skip)
   | (apply z50 (id := 20) (ord := [0, 1, 2, 3, 4, 5, 6, 7, 8, 9]) <;> first | kernel_rfl | skip)
   | (apply z50 (id := 22) (ord := [0, 1, 2, 3, 4, 5, 6, 7, 8]) <;> first | kernel_rfl | skip)
   | (apply z50 (id := 24) (ord := [0, 1, 2, 3, 4, 5, 6, 7, 8]) <;> first | kernel_rfl | skip)
   | (apply z51 (id := 26) (ord := [0, 1, 2, 3, 4, 5, 7, 8, 9, 10, 11, 12, 6, 13, 14, 15, 16]) (ps := [(8, 12), (11, 12)]) <;> first | kernel_rfl | skip)
   | (apply z51 (id := 32) (ord := [0, 1, 2, 3, 4, 5, 8, 9, 10, 6, 7, 11, 12]) (ps := [(2, 9), (8, 9)]) <;> first | kernel_rfl | skip)
   | (apply z51 (id := 34) (ord := [0, 1, 2, 3, 4, 7, 5, 6, 8, 9]) (ps := [(2, 6)]) <;> first | kernel_rfl | skip)
   | (apply z50 (id := 38) (ord := [0, 1, 2, 3, 4, 5, 7, 9, 6, 8, 10, 11]) <;> first | kernel_rfl | skip)
   | (apply z50 (id := 40) (ord := [0, 1, 2, 3, 4, 5]) <;> first | kernel_rfl | skip)
   | (apply z51 (id := 42) (ord := [0, 1, 2, 3, 4, 5, 8, 6, 7, 9, 10]) (ps := [(2, 7)]) <;> first | kernel_rfl | skip)
   | (apply z50 (id := 43) (ord := [0, 1, 2, 3, 4, 5]) <;> first | kernel_rfl | skip)
   | (apply z51 (id := 45) (ord := [0, 1, 2, 3, 4, 5, 6, 7, 8]) (ps := [(2, 6)]) <;> first | kernel_rfl | skip)
   | (refine zs ?_; repeat' first | apply zs0 | apply zs2 | (intro hc; try have hq := dq hc)) | fail

theorem ap_10 (bs : List Nat) (H : Heap) (W v x y : Int) (ar w lv : List V) (h0 : 0 ≤ W) (h16 : W ≤ 16) : callw X bs 153 [.agg [.int .i64 10, .int .i64 W, .list ar, .int .i64 v], .list [.int .i64 x, .int .i64 y], .list w, .list lv] H = some (.int .i64 (if decide (x < y) = true then 1 else 0), H) := by
  refine call_at (rs := [.tmp 8]) (N := 221) (fn := Tryz.f153) xk153 xf153 rfl rfl rfl (by simp only [seval, push_cast, List.map_cons, List.map_nil, V.norm, norm1]; rfl) ?_
  have t1 := fun bs H => pw (bs := bs) (H := H) W h0 h16
  repeat' first
   | (apply z50 (id := 10) (ord := [0, 1, 2, 3, 4, 5, 6, 7]) <;> first | kernel_rfl | skip)
   | (apply z50 (id := 12) (ord := [0, 1, 2, 3, 4, 5, 6, 7]) <;> first | kernel_rfl | skip)
   | (apply z50 (id := 14) (ord := [0, 1, 2, 3, 4, 5, 6, 7]) <;> first | kernel_rfl | skip)
   | (apply z50 (id := 16) (ord := [0, 1, 2, 3, 4, 5, 6, 7, 8, 9]) <;> first | kernel_rfl | skip)
   | (apply z50 (id := 18) (ord := [0, 1, 2, 3, 4, 5, 6, 7, 8, 9, 10, 11]) <;> first | kernel_rfl | skip)
   | (apply z50 (id := 20) (ord := [0, 1, 2, 3, 4, 5, 6, 7, 8, 9]) <;> first | kernel_rfl | skip)
   | (apply z50 (id := 22) (ord := [0, 1, 2, 3, 4, 5, 6, 7, 8]) <;> first | kernel_rfl | skip)
   | (apply z50 (id := 24) (ord := [0, 1, 2, 3, 4, 5, 6, 7, 8]) <;> first | kernel_rfl | skip)
   | (apply z51 (id := 26) (ord := [0, 1, 2, 3, 4, 5, 7, 8, 9, 10, 11, 12, 6, 13, 14, 15, 16]) (ps := [(8, 12), (11, 12)]) <;> first | kernel_rfl | skip)
   | (apply z51 (id := 32) (ord := [0, 1, 2, 3, 4, 5, 8, 9, 10, 6, 7, 11, 12]) (ps := [(2, 9), (8, 9)]) <;> first | kernel_rfl | skip)
   | (apply z51 (id := 34) (ord := [0, 1, 2, 3, 4, 7, 5, 6, 8, 9]) (ps := [(2, 6)]) <;> first | kernel_rfl | skip)
   | (apply z50 (id := 38) (ord := [0, 1, 2, 3, 4, 5, 7, 9, 6, 8, 10, 11]) <;> first | kernel_rfl | skip)
   | (apply z50 (id := 40) (ord := [0, 1, 2, 3, 4, 5]) <;> first | kernel_rfl | skip)
   | (apply z51 (id := 42) (ord := [0, 1, 2, 3, 4, 5, 8, 6, 7, 9, 10]) (ps := [(2, 7)]) <;> first | kernel_rfl | skip)
   | (apply z50 (id := 43) (ord := [0, 1, 2, 3, 4, 5]) <;> first | kernel_rfl | skip)
   | (apply z51 (id := 45) (ord := [0, 1, 2, 3, 4, 5, 6, 7, 8]) (ps := [(2, 6)]) <;> first | kernel_rfl | skip)
   | (refine zs ?_; repeat' first | apply zs0 | apply zs2 | (intro hc; try have hq := dq hc)) | fail

theorem ap_11 (bs : List Nat) (H : Heap) (W v x y p : Int) (ar lv : List V) (h0 : 0 ≤ W) (h16 : W ≤ 16) (hx : InW x p) (hy : InW y p) (hp : 1 ≤ p) (hp16 : p ≤ 16) : callw X bs 153 [.agg [.int .i64 11, .int .i64 W, .list ar, .int .i64 v], .list [.int .i64 x, .int .i64 y], .list [.int .i64 p, .int .i64 p], .list lv] H = some (.int .i64 (if decide (sgn x p < sgn y p) = true then 1 else 0), H) := by
  refine call_at (rs := [.tmp 8]) (N := 221) (fn := Tryz.f153) xk153 xf153 rfl rfl rfl (by simp only [seval, push_cast, List.map_cons, List.map_nil, V.norm, norm1]; rfl) ?_
  have t1 := fun bs H => pw (bs := bs) (H := H) W h0 h16
  have t2 := fun bs H => bs_signed bs H x p hx hp hp16
  have t3 := fun bs H => bs_signed bs H y p hy hp hp16
  clear hx hy hp hp16
  repeat' first
   | (apply z50 (id := 10) (ord := [0, 1, 2, 3, 4, 5, 6, 7]) <;> first | kernel_rfl | skip)
   | (apply z50 (id := 12) (ord := [0, 1, 2, 3, 4, 5, 6, 7]) <;> first | kernel_rfl | skip)
   | (apply z50 (id := 14) (ord := [0, 1, 2, 3, 4, 5, 6, 7]) <;> first | kernel_rfl | skip)
   | (apply z50 (id := 16) (ord := [0, 1, 2, 3, 4, 5, 6, 7, 8, 9]) <;> first | kernel_rfl | skip)
   | (apply z50 (id := 18) (ord := [0, 1, 2, 3, 4, 5, 6, 7, 8, 9, 10, 11]) <;> first | kernel_rfl | skip)
   | (apply z50 (id := 20) (ord := [0, 1, 2, 3, 4, 5, 6, 7, 8, 9]) <;> first | kernel_rfl | skip)
   | (apply z50 (id := 22) (ord := [0, 1, 2, 3, 4, 5, 6, 7, 8]) <;> first | kernel_rfl | skip)
   | (apply z50 (id := 24) (ord := [0, 1, 2, 3, 4, 5, 6, 7, 8]) <;> first | kernel_rfl | skip)
   | (apply z51 (id := 26) (ord := [0, 1, 2, 3, 4, 5, 7, 8, 9, 10, 11, 12, 6, 13, 14, 15, 16]) (ps := [(8, 12), (11, 12)]) <;> first | kernel_rfl | skip)
   | (apply z51 (id := 32) (ord := [0, 1, 2, 3, 4, 5, 8, 9, 10, 6, 7, 11, 12]) (ps := [(2, 9), (8, 9)]) <;> first | kernel_rfl | skip)
   | (apply z51 (id := 34) (ord := [0, 1, 2, 3, 4, 7, 5, 6, 8, 9]) (ps := [(2, 6)]) <;> first | kernel_rfl | skip)
   | (apply z50 (id := 38) (ord := [0, 1, 2, 3, 4, 5, 7, 9, 6, 8, 10, 11]) <;> first | kernel_rfl | skip)
   | (apply z50 (id := 40) (ord := [0, 1, 2, 3, 4, 5]) <;> first | kernel_rfl | skip)
   | (apply z51 (id := 42) (ord := [0, 1, 2, 3, 4, 5, 8, 6, 7, 9, 10]) (ps := [(2, 7)]) <;> first | kernel_rfl | skip)
   | (apply z50 (id := 43) (ord := [0, 1, 2, 3, 4, 5]) <;> first | kernel_rfl | skip)
   | (apply z51 (id := 45) (ord := [0, 1, 2, 3, 4, 5, 6, 7, 8]) (ps := [(2, 6)]) <;> first | kernel_rfl | skip)
   | (refine zs ?_; repeat' first | apply zs0 | apply zs2 | (intro hc; try have hq := dq hc)) | fail

theorem ap_12 (bs : List Nat) (H : Heap) (W v x y z : Int) (ar w lv : List V) (h0 : 0 ≤ W) (h16 : W ≤ 16) : callw X bs 153 [.agg [.int .i64 12, .int .i64 W, .list ar, .int .i64 v], .list [.int .i64 x, .int .i64 y, .int .i64 z], .list w, .list lv] H = some (.int .i64 (if x = 1 then y else z), H) := by
  refine call_at (rs := [.tmp 8]) (N := 221) (fn := Tryz.f153) xk153 xf153 rfl rfl rfl (by simp only [seval, push_cast, List.map_cons, List.map_nil, V.norm, norm1]; rfl) ?_
  have t1 := fun bs H => pw (bs := bs) (H := H) W h0 h16
  by_cases h : x = 1
  · have d : decide (x = 1) = true := decide_eq_true h
    rw [if_pos h]
    clear h
    repeat' first
     | (apply z50 (id := 10) (ord := [0, 1, 2, 3, 4, 5, 6, 7]) <;> first | kernel_rfl | skip)
     | (apply z50 (id := 12) (ord := [0, 1, 2, 3, 4, 5, 6, 7]) <;> first | kernel_rfl | skip)
     | (apply z50 (id := 14) (ord := [0, 1, 2, 3, 4, 5, 6, 7]) <;> first | kernel_rfl | skip)
     | (apply z50 (id := 16) (ord := [0, 1, 2, 3, 4, 5, 6, 7, 8, 9]) <;> first | kernel_rfl | skip)
     | (apply z50 (id := 18) (ord := [0, 1, 2, 3, 4, 5, 6, 7, 8, 9, 10, 11]) <;> first | kernel_rfl | skip)
     | (apply z50 (id := 20) (ord := [0, 1, 2, 3, 4, 5, 6, 7, 8, 9]) <;> first | kernel_rfl | skip)
     | (apply z50 (id := 22) (ord := [0, 1, 2, 3, 4, 5, 6, 7, 8]) <;> first | kernel_rfl | skip)
     | (apply z50 (id := 24) (ord := [0, 1, 2, 3, 4, 5, 6, 7, 8]) <;> first | kernel_rfl | skip)
     | (apply z51 (id := 26) (ord := [0, 1, 2, 3, 4, 5, 7, 8, 9, 10, 11, 12, 6, 13, 14, 15, 16]) (ps := [(8, 12), (11, 12)]) <;> first | kernel_rfl | skip)
     | (apply z51 (id := 32) (ord := [0, 1, 2, 3, 4, 5, 8, 9, 10, 6, 7, 11, 12]) (ps := [(2, 9), (8, 9)]) <;> first | kernel_rfl | skip)
     | (apply z51 (id := 34) (ord := [0, 1, 2, 3, 4, 7, 5, 6, 8, 9]) (ps := [(2, 6)]) <;> first | kernel_rfl | skip)
     | (apply z50 (id := 38) (ord := [0, 1, 2, 3, 4, 5, 7, 9, 6, 8, 10, 11]) <;> first | kernel_rfl | skip)
     | (apply z50 (id := 40) (ord := [0, 1, 2, 3, 4, 5]) <;> first | kernel_rfl | skip)
     | (apply z51 (id := 42) (ord := [0, 1, 2, 3, 4, 5, 8, 6, 7, 9, 10]) (ps := [(2, 7)]) <;> first | kernel_rfl | skip)
     | (apply z50 (id := 43) (ord := [0, 1, 2, 3, 4, 5]) <;> first | kernel_rfl | skip)
     | (apply z51 (id := 45) (ord := [0, 1, 2, 3, 4, 5, 6, 7, 8]) (ps := [(2, 6)]) <;> first | kernel_rfl | skip)
     | (refine zs ?_; repeat' first | apply zs0 | apply zs2 | (intro hc; try have hq := dq hc)) | fail
  · have d : decide (x = 1) = false := decide_eq_false h
    rw [if_neg h]
    clear h
    repeat' first
     | (apply z50 (id := 10) (ord := [0, 1, 2, 3, 4, 5, 6, 7]) <;> first | kernel_rfl | skip)
     | (apply z50 (id := 12) (ord := [0, 1, 2, 3, 4, 5, 6, 7]) <;> first | kernel_rfl | skip)
     | (apply z50 (id := 14) (ord := [0, 1, 2, 3, 4, 5, 6, 7]) <;> first | kernel_rfl | skip)
     | (apply z50 (id := 16) (ord := [0, 1, 2, 3, 4, 5, 6, 7, 8, 9]) <;> first | kernel_rfl | skip)
     | (apply z50 (id := 18) (ord := [0, 1, 2, 3, 4, 5, 6, 7, 8, 9, 10, 11]) <;> first | kernel_rfl | skip)
     | (apply z50 (id := 20) (ord := [0, 1, 2, 3, 4, 5, 6, 7, 8, 9]) <;> first | kernel_rfl | skip)
     | (apply z50 (id := 22) (ord := [0, 1, 2, 3, 4, 5, 6, 7, 8]) <;> first | kernel_rfl | skip)
     | (apply z50 (id := 24) (ord := [0, 1, 2, 3, 4, 5, 6, 7, 8]) <;> first | kernel_rfl | skip)
     | (apply z51 (id := 26) (ord := [0, 1, 2, 3, 4, 5, 7, 8, 9, 10, 11, 12, 6, 13, 14, 15, 16]) (ps := [(8, 12), (11, 12)]) <;> first | kernel_rfl | skip)
     | (apply z51 (id := 32) (ord := [0, 1, 2, 3, 4, 5, 8, 9, 10, 6, 7, 11, 12]) (ps := [(2, 9), (8, 9)]) <;> first | kernel_rfl | skip)
     | (apply z51 (id := 34) (ord := [0, 1, 2, 3, 4, 7, 5, 6, 8, 9]) (ps := [(2, 6)]) <;> first | kernel_rfl | skip)
     | (apply z50 (id := 38) (ord := [0, 1, 2, 3, 4, 5, 7, 9, 6, 8, 10, 11]) <;> first | kernel_rfl | skip)
     | (apply z50 (id := 40) (ord := [0, 1, 2, 3, 4, 5]) <;> first | kernel_rfl | skip)
     | (apply z51 (id := 42) (ord := [0, 1, 2, 3, 4, 5, 8, 6, 7, 9, 10]) (ps := [(2, 7)]) <;> first | kernel_rfl | skip)
     | (apply z50 (id := 43) (ord := [0, 1, 2, 3, 4, 5]) <;> first | kernel_rfl | skip)
     | (apply z51 (id := 45) (ord := [0, 1, 2, 3, 4, 5, 6, 7, 8]) (ps := [(2, 6)]) <;> first | kernel_rfl | skip)
     | (refine zs ?_; repeat' first | apply zs0 | apply zs2 | (intro hc; try have hq := dq hc)) | fail

theorem ap_13 (bs : List Nat) (H : Heap) (W v x y p q : Int) (ar lv : List V) (h0 : 0 ≤ W) (h16 : W ≤ 16) (hx : 0 ≤ x ∧ x < 65536) (hy : InW y q) (hq : 0 ≤ q) (hq16 : q ≤ 16) : callw X bs 153 [.agg [.int .i64 13, .int .i64 W, .list ar, .int .i64 v], .list [.int .i64 x, .int .i64 y], .list [.int .i64 p, .int .i64 q], .list lv] H = some (.int .i64 (x * 2 ^ q.toNat + y), H) := by
  refine call_at (rs := [.tmp 8]) (N := 221) (fn := Tryz.f153) xk153 xf153 rfl rfl rfl (by simp only [seval, push_cast, List.map_cons, List.map_nil, V.norm, norm1]; rfl) ?_
  have t1 := fun bs H => pw (bs := bs) (H := H) W h0 h16
  have t2 := fun bs H => pw (bs := bs) (H := H) q hq hq16
  have h2 := pow16 hq16
  have h3 := pow_pos' q.toNat
  obtain ⟨y0, y1⟩ := hy
  have h1 : x * 2 ^ q.toNat ≤ 65536 * 65536 := Int.le_trans (Int.mul_le_mul_of_nonneg_right (by omega) (by omega)) (Int.mul_le_mul_of_nonneg_left h2 (by omega))
  have h4 := Int.mul_nonneg hx.1 (Int.le_of_lt h3)
  have e1 := wrx (x := x * 2 ^ q.toNat) (by omega)
  have e2 := wrx (x := x * 2 ^ q.toNat + y) (by omega)
  clear hx y0 y1 h1 h2 h3 h4 hq hq16
  repeat' first
   | (apply z50 (id := 10) (ord := [0, 1, 2, 3, 4, 5, 6, 7]) <;> first | kernel_rfl | skip)
   | (apply z50 (id := 12) (ord := [0, 1, 2, 3, 4, 5, 6, 7]) <;> first | kernel_rfl | skip)
   | (apply z50 (id := 14) (ord := [0, 1, 2, 3, 4, 5, 6, 7]) <;> first | kernel_rfl | skip)
   | (apply z50 (id := 16) (ord := [0, 1, 2, 3, 4, 5, 6, 7, 8, 9]) <;> first | kernel_rfl | skip)
   | (apply z50 (id := 18) (ord := [0, 1, 2, 3, 4, 5, 6, 7, 8, 9, 10, 11]) <;> first | kernel_rfl | skip)
   | (apply z50 (id := 20) (ord := [0, 1, 2, 3, 4, 5, 6, 7, 8, 9]) <;> first | kernel_rfl | skip)
   | (apply z50 (id := 22) (ord := [0, 1, 2, 3, 4, 5, 6, 7, 8]) <;> first | kernel_rfl | skip)
   | (apply z50 (id := 24) (ord := [0, 1, 2, 3, 4, 5, 6, 7, 8]) <;> first | kernel_rfl | skip)
   | (apply z51 (id := 26) (ord := [0, 1, 2, 3, 4, 5, 7, 8, 9, 10, 11, 12, 6, 13, 14, 15, 16]) (ps := [(8, 12), (11, 12)]) <;> first | kernel_rfl | skip)
   | (apply z51 (id := 32) (ord := [0, 1, 2, 3, 4, 5, 8, 9, 10, 6, 7, 11, 12]) (ps := [(2, 9), (8, 9)]) <;> first | kernel_rfl | skip)
   | (apply z51 (id := 34) (ord := [0, 1, 2, 3, 4, 7, 5, 6, 8, 9]) (ps := [(2, 6)]) <;> first | kernel_rfl | skip)
   | (apply z50 (id := 38) (ord := [0, 1, 2, 3, 4, 5, 7, 9, 6, 8, 10, 11]) <;> first | kernel_rfl | skip)
   | (apply z50 (id := 40) (ord := [0, 1, 2, 3, 4, 5]) <;> first | kernel_rfl | skip)
   | (apply z51 (id := 42) (ord := [0, 1, 2, 3, 4, 5, 8, 6, 7, 9, 10]) (ps := [(2, 7)]) <;> first | kernel_rfl | skip)
   | (apply z50 (id := 43) (ord := [0, 1, 2, 3, 4, 5]) <;> first | kernel_rfl | skip)
   | (apply z51 (id := 45) (ord := [0, 1, 2, 3, 4, 5, 6, 7, 8]) (ps := [(2, 6)]) <;> first | kernel_rfl | skip)
   | (refine zs ?_; repeat' first | apply zs0 | apply zs2 | (intro hc; try have hq := dq hc)) | fail

theorem ap_14 (bs : List Nat) (H : Heap) (W v x : Int) (ar w lv : List V) (h0 : 0 ≤ W) (h16 : W ≤ 16) (hx : 0 ≤ x ∧ x < 65536) (hv : 0 ≤ v) (hv16 : v ≤ 16) : callw X bs 153 [.agg [.int .i64 14, .int .i64 W, .list ar, .int .i64 v], .list [.int .i64 x], .list w, .list lv] H = some (.int .i64 (x / 2 ^ v.toNat % 2 ^ W.toNat), H) := by
  refine call_at (rs := [.tmp 8]) (N := 221) (fn := Tryz.f153) xk153 xf153 rfl rfl rfl (by simp only [seval, push_cast, List.map_cons, List.map_nil, V.norm, norm1]; rfl) ?_
  have t1 := fun bs H => pw (bs := bs) (H := H) W h0 h16
  have t2 := fun bs H => pw (bs := bs) (H := H) v hv hv16
  have e1 := tdiv_pow (x := x) (k := v.toNat) hx.1
  have e2 := rem_ne (x := 0) (k := W.toNat)
  have e4 := rem_ne (x := 0) (k := v.toNat)
  have e3 := tmod_pow (x := x / 2 ^ v.toNat) (k := W.toNat) (Int.ediv_nonneg hx.1 (by have := pow_pos' v.toNat; omega))
  have e5 : IntKind.i64.wrap (x / 2 ^ v.toNat) = x / 2 ^ v.toNat := wrx (by have := Int.ediv_le_self (2 ^ v.toNat) hx.1; have := Int.ediv_nonneg hx.1 (Int.le_of_lt (pow_pos' v.toNat)); omega)
  clear hx hv hv16
  repeat' first
   | (apply z50 (id := 10) (ord := [0, 1, 2, 3, 4, 5, 6, 7]) <;> first | kernel_rfl | skip)
   | (apply z50 (id := 12) (ord := [0, 1, 2, 3, 4, 5, 6, 7]) <;> first | kernel_rfl | skip)
   | (apply z50 (id := 14) (ord := [0, 1, 2, 3, 4, 5, 6, 7]) <;> first | kernel_rfl | skip)
   | (apply z50 (id := 16) (ord := [0, 1, 2, 3, 4, 5, 6, 7, 8, 9]) <;> first | kernel_rfl | skip)
   | (apply z50 (id := 18) (ord := [0, 1, 2, 3, 4, 5, 6, 7, 8, 9, 10, 11]) <;> first | kernel_rfl | skip)
   | (apply z50 (id := 20) (ord := [0, 1, 2, 3, 4, 5, 6, 7, 8, 9]) <;> first | kernel_rfl | skip)
   | (apply z50 (id := 22) (ord := [0, 1, 2, 3, 4, 5, 6, 7, 8]) <;> first | kernel_rfl | skip)
   | (apply z50 (id := 24) (ord := [0, 1, 2, 3, 4, 5, 6, 7, 8]) <;> first | kernel_rfl | skip)
   | (apply z51 (id := 26) (ord := [0, 1, 2, 3, 4, 5, 7, 8, 9, 10, 11, 12, 6, 13, 14, 15, 16]) (ps := [(8, 12), (11, 12)]) <;> first | kernel_rfl | skip)
   | (apply z51 (id := 32) (ord := [0, 1, 2, 3, 4, 5, 8, 9, 10, 6, 7, 11, 12]) (ps := [(2, 9), (8, 9)]) <;> first | kernel_rfl | skip)
   | (apply z51 (id := 34) (ord := [0, 1, 2, 3, 4, 7, 5, 6, 8, 9]) (ps := [(2, 6)]) <;> first | kernel_rfl | skip)
   | (apply z50 (id := 38) (ord := [0, 1, 2, 3, 4, 5, 7, 9, 6, 8, 10, 11]) <;> first | kernel_rfl | skip)
   | (apply z50 (id := 40) (ord := [0, 1, 2, 3, 4, 5]) <;> first | kernel_rfl | skip)
   | (apply z51 (id := 42) (ord := [0, 1, 2, 3, 4, 5, 8, 6, 7, 9, 10]) (ps := [(2, 7)]) <;> first | kernel_rfl | skip)
   | (apply z50 (id := 43) (ord := [0, 1, 2, 3, 4, 5]) <;> first | kernel_rfl | skip)
   | (apply z51 (id := 45) (ord := [0, 1, 2, 3, 4, 5, 6, 7, 8]) (ps := [(2, 6)]) <;> first | kernel_rfl | skip)
   | (refine zs ?_; repeat' first | apply zs0 | apply zs2 | (intro hc; try have hq := dq hc)) | fail

theorem ap_15 (bs : List Nat) (H : Heap) (W v x : Int) (ar w lv : List V) (h0 : 0 ≤ W) (h16 : W ≤ 16) : callw X bs 153 [.agg [.int .i64 15, .int .i64 W, .list ar, .int .i64 v], .list [.int .i64 x], .list w, .list lv] H = some (.int .i64 x, H) := by
  refine call_at (rs := [.tmp 8]) (N := 221) (fn := Tryz.f153) xk153 xf153 rfl rfl rfl (by simp only [seval, push_cast, List.map_cons, List.map_nil, V.norm, norm1]; rfl) ?_
  have t1 := fun bs H => pw (bs := bs) (H := H) W h0 h16
  repeat' first
   | (apply z50 (id := 10) (ord := [0, 1, 2, 3, 4, 5, 6, 7]) <;> first | kernel_rfl | skip)
   | (apply z50 (id := 12) (ord := [0, 1, 2, 3, 4, 5, 6, 7]) <;> first | kernel_rfl | skip)
   | (apply z50 (id := 14) (ord := [0, 1, 2, 3, 4, 5, 6, 7]) <;> first | kernel_rfl | skip)
   | (apply z50 (id := 16) (ord := [0, 1, 2, 3, 4, 5, 6, 7, 8, 9]) <;> first | kernel_rfl | skip)
   | (apply z50 (id := 18) (ord := [0, 1, 2, 3, 4, 5, 6, 7, 8, 9, 10, 11]) <;> first | kernel_rfl | skip)
   | (apply z50 (id := 20) (ord := [0, 1, 2, 3, 4, 5, 6, 7, 8, 9]) <;> first | kernel_rfl | skip)
   | (apply z50 (id := 22) (ord := [0, 1, 2, 3, 4, 5, 6, 7, 8]) <;> first | kernel_rfl | skip)
   | (apply z50 (id := 24) (ord := [0, 1, 2, 3, 4, 5, 6, 7, 8]) <;> first | kernel_rfl | skip)
   | (apply z51 (id := 26) (ord := [0, 1, 2, 3, 4, 5, 7, 8, 9, 10, 11, 12, 6, 13, 14, 15, 16]) (ps := [(8, 12), (11, 12)]) <;> first | kernel_rfl | skip)
   | (apply z51 (id := 32) (ord := [0, 1, 2, 3, 4, 5, 8, 9, 10, 6, 7, 11, 12]) (ps := [(2, 9), (8, 9)]) <;> first | kernel_rfl | skip)
   | (apply z51 (id := 34) (ord := [0, 1, 2, 3, 4, 7, 5, 6, 8, 9]) (ps := [(2, 6)]) <;> first | kernel_rfl | skip)
   | (apply z50 (id := 38) (ord := [0, 1, 2, 3, 4, 5, 7, 9, 6, 8, 10, 11]) <;> first | kernel_rfl | skip)
   | (apply z50 (id := 40) (ord := [0, 1, 2, 3, 4, 5]) <;> first | kernel_rfl | skip)
   | (apply z51 (id := 42) (ord := [0, 1, 2, 3, 4, 5, 8, 6, 7, 9, 10]) (ps := [(2, 7)]) <;> first | kernel_rfl | skip)
   | (apply z50 (id := 43) (ord := [0, 1, 2, 3, 4, 5]) <;> first | kernel_rfl | skip)
   | (apply z51 (id := 45) (ord := [0, 1, 2, 3, 4, 5, 6, 7, 8]) (ps := [(2, 6)]) <;> first | kernel_rfl | skip)
   | (refine zs ?_; repeat' first | apply zs0 | apply zs2 | (intro hc; try have hq := dq hc)) | fail

theorem ap_16 (bs : List Nat) (H : Heap) (W v x p : Int) (ar w lv : List V) (h0 : 0 ≤ W) (h16 : W ≤ 16) (hx : InW x p) (hp : 1 ≤ p) (hpW : p ≤ W) : callw X bs 153 [.agg [.int .i64 16, .int .i64 W, .list ar, .int .i64 v], .list [.int .i64 x], .list (.int .i64 p :: w), .list lv] H = some (.int .i64 (sgn x p % 2 ^ W.toNat), H) := by
  refine call_at (rs := [.tmp 8]) (N := 221) (fn := Tryz.f153) xk153 xf153 rfl rfl rfl (by simp only [seval, push_cast, List.map_cons, List.map_nil, V.norm, norm1]; rfl) ?_
  have t1 := fun bs H => pw (bs := bs) (H := H) W h0 h16
  have t2 := fun bs H => bs_signed bs H x p hx hp (by omega)
  have h1 := sgn_rng hx hp
  have h2 := pow16 h16
  have h3 := pow_two_succ hp
  have h4 := pow_mono hpW
  have h5 := pow_pos' (p.toNat - 1)
  have e1 := wrx (x := sgn x p + 2 ^ W.toNat) (by omega)
  have e2 := rem_ne (x := 0) (k := W.toNat)
  have e3 := tmod_pow (x := sgn x p + 2 ^ W.toNat) (k := W.toNat) (by omega)
  rw [Int.add_emod_right] at e3
  clear h1 h2 h3 h4 h5 hx hp hpW
  repeat' first
   | (apply z50 (id := 10) (ord := [0, 1, 2, 3, 4, 5, 6, 7]) <;> first | kernel_rfl | skip)
   | (apply z50 (id := 12) (ord := [0, 1, 2, 3, 4, 5, 6, 7]) <;> first | kernel_rfl | skip)
   | (apply z50 (id := 14) (ord := [0, 1, 2, 3, 4, 5, 6, 7]) <;> first | kernel_rfl | skip)
   | (apply z50 (id := 16) (ord := [0, 1, 2, 3, 4, 5, 6, 7, 8, 9]) <;> first | kernel_rfl | skip)
   | (apply z50 (id := 18) (ord := [0, 1, 2, 3, 4, 5, 6, 7, 8, 9, 10, 11]) <;> first | kernel_rfl | skip)
   | (apply z50 (id := 20) (ord := [0, 1, 2, 3, 4, 5, 6, 7, 8, 9]) <;> first | kernel_rfl | skip)
   | (apply z50 (id := 22) (ord := [0, 1, 2, 3, 4, 5, 6, 7, 8]) <;> first | kernel_rfl | skip)
   | (apply z50 (id := 24) (ord := [0, 1, 2, 3, 4, 5, 6, 7, 8]) <;> first | kernel_rfl | skip)
   | (apply z51 (id := 26) (ord := [0, 1, 2, 3, 4, 5, 7, 8, 9, 10, 11, 12, 6, 13, 14, 15, 16]) (ps := [(8, 12), (11, 12)]) <;> first | kernel_rfl | skip)
   | (apply z51 (id := 32) (ord := [0, 1, 2, 3, 4, 5, 8, 9, 10, 6, 7, 11, 12]) (ps := [(2, 9), (8, 9)]) <;> first | kernel_rfl | skip)
   | (apply z51 (id := 34) (ord := [0, 1, 2, 3, 4, 7, 5, 6, 8, 9]) (ps := [(2, 6)]) <;> first | kernel_rfl | skip)
   | (apply z50 (id := 38) (ord := [0, 1, 2, 3, 4, 5, 7, 9, 6, 8, 10, 11]) <;> first | kernel_rfl | skip)
   | (apply z50 (id := 40) (ord := [0, 1, 2, 3, 4, 5]) <;> first | kernel_rfl | skip)
   | (apply z51 (id := 42) (ord := [0, 1, 2, 3, 4, 5, 8, 6, 7, 9, 10]) (ps := [(2, 7)]) <;> first | kernel_rfl | skip)
   | (apply z50 (id := 43) (ord := [0, 1, 2, 3, 4, 5]) <;> first | kernel_rfl | skip)
   | (apply z51 (id := 45) (ord := [0, 1, 2, 3, 4, 5, 6, 7, 8]) (ps := [(2, 6)]) <;> first | kernel_rfl | skip)
   | (refine zs ?_; repeat' first | apply zs0 | apply zs2 | (intro hc; try have hq := dq hc)) | fail

theorem ap_17 (bs : List Nat) (H : Heap) (W v x y : Int) (ar w lv : List V) (h0 : 0 ≤ W) (h16 : W ≤ 16) (hx : 0 ≤ x ∧ x < 65536) (hy : 0 ≤ y) : callw X bs 153 [.agg [.int .i64 17, .int .i64 W, .list ar, .int .i64 v], .list [.int .i64 x, .int .i64 y], .list w, .list lv] H = some (.int .i64 (if W ≤ y then 0 else x * 2 ^ y.toNat % 2 ^ W.toNat), H) := by
  refine call_at (rs := [.tmp 8]) (N := 221) (fn := Tryz.f153) xk153 xf153 rfl rfl rfl (by simp only [seval, push_cast, List.map_cons, List.map_nil, V.norm, norm1]; rfl) ?_
  have t1 := fun bs H => pw (bs := bs) (H := H) W h0 h16
  by_cases h : W ≤ y
  · have d : decide (y ≥ W) = true := decide_eq_true h
    rw [if_pos h]
    clear h hx hy
    repeat' first
     | (apply z50 (id := 10) (ord := [0, 1, 2, 3, 4, 5, 6, 7]) <;> first | kernel_rfl | skip)
     | (apply z50 (id := 12) (ord := [0, 1, 2, 3, 4, 5, 6, 7]) <;> first | kernel_rfl | skip)
     | (apply z50 (id := 14) (ord := [0, 1, 2, 3, 4, 5, 6, 7]) <;> first | kernel_rfl | skip)
     | (apply z50 (id := 16) (ord := [0, 1, 2, 3, 4, 5, 6, 7, 8, 9]) <;> first | kernel_rfl | skip)
     | (apply z50 (id := 18) (ord := [0, 1, 2, 3, 4, 5, 6, 7, 8, 9, 10, 11]) <;> first | kernel_rfl | skip)
     | (apply z50 (id := 20) (ord := [0, 1, 2, 3, 4, 5, 6, 7, 8, 9]) <;> first | kernel_rfl | skip)
     | (apply z50 (id := 22) (ord := [0, 1, 2, 3, 4, 5, 6, 7, 8]) <;> first | kernel_rfl | skip)
     | (apply z50 (id := 24) (ord := [0, 1, 2, 3, 4, 5, 6, 7, 8]) <;> first | kernel_rfl | skip)
     | (apply z51 (id := 26) (ord := [0, 1, 2, 3, 4, 5, 7, 8, 9, 10, 11, 12, 6, 13, 14, 15, 16]) (ps := [(8, 12), (11, 12)]) <;> first | kernel_rfl | skip)
     | (apply z51 (id := 32) (ord := [0, 1, 2, 3, 4, 5, 8, 9, 10, 6, 7, 11, 12]) (ps := [(2, 9), (8, 9)]) <;> first | kernel_rfl | skip)
     | (apply z51 (id := 34) (ord := [0, 1, 2, 3, 4, 7, 5, 6, 8, 9]) (ps := [(2, 6)]) <;> first | kernel_rfl | skip)
     | (apply z50 (id := 38) (ord := [0, 1, 2, 3, 4, 5, 7, 9, 6, 8, 10, 11]) <;> first | kernel_rfl | skip)
     | (apply z50 (id := 40) (ord := [0, 1, 2, 3, 4, 5]) <;> first | kernel_rfl | skip)
     | (apply z51 (id := 42) (ord := [0, 1, 2, 3, 4, 5, 8, 6, 7, 9, 10]) (ps := [(2, 7)]) <;> first | kernel_rfl | skip)
     | (apply z50 (id := 43) (ord := [0, 1, 2, 3, 4, 5]) <;> first | kernel_rfl | skip)
     | (apply z51 (id := 45) (ord := [0, 1, 2, 3, 4, 5, 6, 7, 8]) (ps := [(2, 6)]) <;> first | kernel_rfl | skip)
     | (refine zs ?_; repeat' first | apply zs0 | apply zs2 | (intro hc; try have hq := dq hc)) | fail
  · have d : decide (y ≥ W) = false := decide_eq_false h
    have t2 := fun bs H => pw (bs := bs) (H := H) y hy (by omega)
    have h2 := pow16 (by omega : y ≤ 16)
    have h3 := pow_pos' y.toNat
    have h1 : x * 2 ^ y.toNat ≤ 65536 * 65536 := Int.le_trans (Int.mul_le_mul_of_nonneg_right (by omega) (by omega)) (Int.mul_le_mul_of_nonneg_left h2 (by omega))
    have h4 := Int.mul_nonneg hx.1 (Int.le_of_lt h3)
    have e1 := wrx (x := x * 2 ^ y.toNat) (by omega)
    have e2 := rem_ne (x := 0) (k := W.toNat)
    have e3 := tmod_pow (x := x * 2 ^ y.toNat) (k := W.toNat) h4
    rw [if_neg h]
    clear h hx hy h1 h2 h3 h4
    repeat' first
     | (apply z50 (id := 10) (ord := [0, 1, 2, 3, 4, 5, 6, 7]) <;> first | kernel_rfl | skip)
     | (apply z50 (id := 12) (ord := [0, 1, 2, 3, 4, 5, 6, 7]) <;> first | kernel_rfl | skip)
     | (apply z50 (id := 14) (ord := [0, 1, 2, 3, 4, 5, 6, 7]) <;> first | kernel_rfl | skip)
     | (apply z50 (id := 16) (ord := [0, 1, 2, 3, 4, 5, 6, 7, 8, 9]) <;> first | kernel_rfl | skip)
     | (apply z50 (id := 18) (ord := [0, 1, 2, 3, 4, 5, 6, 7, 8, 9, 10, 11]) <;> first | kernel_rfl | skip)
     | (apply z50 (id := 20) (ord := [0, 1, 2, 3, 4, 5, 6, 7, 8, 9]) <;> first | kernel_rfl | skip)
     | (apply z50 (id := 22) (ord := [0, 1, 2, 3, 4, 5, 6, 7, 8]) <;> first | kernel_rfl | skip)
     | (apply z50 (id := 24) (ord := [0, 1, 2, 3, 4, 5, 6, 7, 8]) <;> first | kernel_rfl | skip)
     | (apply z51 (id := 26) (ord := [0, 1, 2, 3, 4, 5, 7, 8, 9, 10, 11, 12, 6, 13, 14, 15, 16]) (ps := [(8, 12), (11, 12)]) <;> first | kernel_rfl | skip)
     | (apply z51 (id := 32) (ord := [0, 1, 2, 3, 4, 5, 8, 9, 10, 6, 7, 11, 12]) (ps := [(2, 9), (8, 9)]) <;> first | kernel_rfl | skip)
     | (apply z51 (id := 34) (ord := [0, 1, 2, 3, 4, 7, 5, 6, 8, 9]) (ps := [(2, 6)]) <;> first | kernel_rfl | skip)
     | (apply z50 (id := 38) (ord := [0, 1, 2, 3, 4, 5, 7, 9, 6, 8, 10, 11]) <;> first | kernel_rfl | skip)
     | (apply z50 (id := 40) (ord := [0, 1, 2, 3, 4, 5]) <;> first | kernel_rfl | skip)
     | (apply z51 (id := 42) (ord := [0, 1, 2, 3, 4, 5, 8, 6, 7, 9, 10]) (ps := [(2, 7)]) <;> first | kernel_rfl | skip)
     | (apply z50 (id := 43) (ord := [0, 1, 2, 3, 4, 5]) <;> first | kernel_rfl | skip)
     | (apply z51 (id := 45) (ord := [0, 1, 2, 3, 4, 5, 6, 7, 8]) (ps := [(2, 6)]) <;> first | kernel_rfl | skip)
     | (refine zs ?_; repeat' first | apply zs0 | apply zs2 | (intro hc; try have hq := dq hc)) | fail

theorem ap_18 (bs : List Nat) (H : Heap) (W v x y : Int) (ar w lv : List V) (h0 : 0 ≤ W) (h16 : W ≤ 16) (hx : 0 ≤ x ∧ x < 65536) (hy : 0 ≤ y) : callw X bs 153 [.agg [.int .i64 18, .int .i64 W, .list ar, .int .i64 v], .list [.int .i64 x, .int .i64 y], .list w, .list lv] H = some (.int .i64 (if W ≤ y then 0 else x / 2 ^ y.toNat), H) := by
  refine call_at (rs := [.tmp 8]) (N := 221) (fn := Tryz.f153) xk153 xf153 rfl rfl rfl (by simp only [seval, push_cast, List.map_cons, List.map_nil, V.norm, norm1]; rfl) ?_
  have t1 := fun bs H => pw (bs := bs) (H := H) W h0 h16
  by_cases h : W ≤ y
  · have d : decide (y ≥ W) = true := decide_eq_true h
    rw [if_pos h]
    clear h hx hy
    repeat' first
     | (apply z50 (id := 10) (ord := [0, 1, 2, 3, 4, 5, 6, 7]) <;> first | kernel_rfl | skip)
     | (apply z50 (id := 12) (ord := [0, 1, 2, 3, 4, 5, 6, 7]) <;> first | kernel_rfl | skip)
     | (apply z50 (id := 14) (ord := [0, 1, 2, 3, 4, 5, 6, 7]) <;> first | kernel_rfl | skip)
     | (apply z50 (id := 16) (ord := [0, 1, 2, 3, 4, 5, 6, 7, 8, 9]) <;> first | kernel_rfl | skip)
     | (apply z50 (id := 18) (ord := [0, 1, 2, 3, 4, 5, 6, 7, 8, 9, 10, 11]) <;> first | kernel_rfl | skip)
     | (apply z50 (id := 20) (ord := [0, 1, 2, 3, 4, 5, 6, 7, 8, 9]) <;> first | kernel_rfl | skip)
     | (apply z50 (id := 22) (ord := [0, 1, 2, 3, 4, 5, 6, 7, 8]) <;> first | kernel_rfl | skip)
     | (apply z50 (id := 24) (ord := [0, 1, 2, 3, 4, 5, 6, 7, 8]) <;> first | kernel_rfl | skip)
     | (apply z51 (id := 26) (ord := [0, 1, 2, 3, 4, 5, 7, 8, 9, 10, 11, 12, 6, 13, 14, 15, 16]) (ps := [(8, 12), (11, 12)]) <;> first | kernel_rfl | skip)
     | (apply z51 (id := 32) (ord := [0, 1, 2, 3, 4, 5, 8, 9, 10, 6, 7, 11, 12]) (ps := [(2, 9), (8, 9)]) <;> first | kernel_rfl | skip)
     | (apply z51 (id := 34) (ord := [0, 1, 2, 3, 4, 7, 5, 6, 8, 9]) (ps := [(2, 6)]) <;> first | kernel_rfl | skip)
     | (apply z50 (id := 38) (ord := [0, 1, 2, 3, 4, 5, 7, 9, 6, 8, 10, 11]) <;> first | kernel_rfl | skip)
     | (apply z50 (id := 40) (ord := [0, 1, 2, 3, 4, 5]) <;> first | kernel_rfl | skip)
     | (apply z51 (id := 42) (ord := [0, 1, 2, 3, 4, 5, 8, 6, 7, 9, 10]) (ps := [(2, 7)]) <;> first | kernel_rfl | skip)
     | (apply z50 (id := 43) (ord := [0, 1, 2, 3, 4, 5]) <;> first | kernel_rfl | skip)
     | (apply z51 (id := 45) (ord := [0, 1, 2, 3, 4, 5, 6, 7, 8]) (ps := [(2, 6)]) <;> first | kernel_rfl | skip)
     | (refine zs ?_; repeat' first | apply zs0 | apply zs2 | (intro hc; try have hq := dq hc)) | fail
  · have d : decide (y ≥ W) = false := decide_eq_false h
    have t2 := fun bs H => pw (bs := bs) (H := H) y hy (by omega)
    have e1 := tdiv_pow (x := x) (k := y.toNat) hx.1
    have e2 := rem_ne (x := 0) (k := y.toNat)
    have e5 : IntKind.i64.wrap (x / 2 ^ y.toNat) = x / 2 ^ y.toNat := wrx (by have := Int.ediv_le_self (2 ^ y.toNat) hx.1; have := Int.ediv_nonneg hx.1 (Int.le_of_lt (pow_pos' y.toNat)); omega)
    rw [if_neg h]
    clear h hx hy
    repeat' first
     | (apply z50 (id := 10) (ord := [0, 1, 2, 3, 4, 5, 6, 7]) <;> first | kernel_rfl | skip)
     | (apply z50 (id := 12) (ord := [0, 1, 2, 3, 4, 5, 6, 7]) <;> first | kernel_rfl | skip)
     | (apply z50 (id := 14) (ord := [0, 1, 2, 3, 4, 5, 6, 7]) <;> first | kernel_rfl | skip)
     | (apply z50 (id := 16) (ord := [0, 1, 2, 3, 4, 5, 6, 7, 8, 9]) <;> first | kernel_rfl | skip)
     | (apply z50 (id := 18) (ord := [0, 1, 2, 3, 4, 5, 6, 7, 8, 9, 10, 11]) <;> first | kernel_rfl | skip)
     | (apply z50 (id := 20) (ord := [0, 1, 2, 3, 4, 5, 6, 7, 8, 9]) <;> first | kernel_rfl | skip)
     | (apply z50 (id := 22) (ord := [0, 1, 2, 3, 4, 5, 6, 7, 8]) <;> first | kernel_rfl | skip)
     | (apply z50 (id := 24) (ord := [0, 1, 2, 3, 4, 5, 6, 7, 8]) <;> first | kernel_rfl | skip)
     | (apply z51 (id := 26) (ord := [0, 1, 2, 3, 4, 5, 7, 8, 9, 10, 11, 12, 6, 13, 14, 15, 16]) (ps := [(8, 12), (11, 12)]) <;> first | kernel_rfl | skip)
     | (apply z51 (id := 32) (ord := [0, 1, 2, 3, 4, 5, 8, 9, 10, 6, 7, 11, 12]) (ps := [(2, 9), (8, 9)]) <;> first | kernel_rfl | skip)
     | (apply z51 (id := 34) (ord := [0, 1, 2, 3, 4, 7, 5, 6, 8, 9]) (ps := [(2, 6)]) <;> first | kernel_rfl | skip)
     | (apply z50 (id := 38) (ord := [0, 1, 2, 3, 4, 5, 7, 9, 6, 8, 10, 11]) <;> first | kernel_rfl | skip)
     | (apply z50 (id := 40) (ord := [0, 1, 2, 3, 4, 5]) <;> first | kernel_rfl | skip)
     | (apply z51 (id := 42) (ord := [0, 1, 2, 3, 4, 5, 8, 6, 7, 9, 10]) (ps := [(2, 7)]) <;> first | kernel_rfl | skip)
     | (apply z50 (id := 43) (ord := [0, 1, 2, 3, 4, 5]) <;> first | kernel_rfl | skip)
     | (apply z51 (id := 45) (ord := [0, 1, 2, 3, 4, 5, 6, 7, 8]) (ps := [(2, 6)]) <;> first | kernel_rfl | skip)
     | (refine zs ?_; repeat' first | apply zs0 | apply zs2 | (intro hc; try have hq := dq hc)) | fail
end Go.E
/- Contracts of the references' base, in E: Apply, whole; the values of nodes. Own work. -/
namespace Go.E
open Go.Proofs
set_option maxRecDepth 100000
set_option maxHeartbeats 4000000

theorem apply_call (bs : List Nat) (H : Heap) (k : Nat) (W v : Int) (ar lv : List V) (a w : List Int) (h : OkArgs k W v a w) (h1 : k ≠ 1) :
    callw X bs 153 [.agg [.int .i64 k, .int .i64 W, .list ar, .int .i64 v], .list (a.map (.int .i64)), .list (w.map (.int .i64)), .list lv] H = some (.int .i64 (applyS k W v a w), H) := by
  obtain ⟨hk, hW1, hW16, hla, hlw, hr, hw, hf, hv, hc⟩ := h
  have hW0 : 0 ≤ W := by omega
  match k, hk, a, hla, w, hlw with
  | 0, _, a, _, w, _ => exact ap_0 bs H W v ar _ _ lv hW0 hW16
  | 1, _, _, _, _, _ => exact absurd rfl h1
  | 2, _, [x], _, [p], _ =>
    have r0 := hr 0 (by decide)
    simp only [fitsS, List.any_cons, List.any_nil, Bool.or_false, Bool.not_eq_true', decide_eq_false_iff_not, Decidable.not_not] at hf
    subst hf
    exact ap_2 bs H p v x ar _ lv hW0 hW16 r0
  | 3, _, [x, y], _, [p, q], _ =>
    have r0 := hr 0 (by decide)
    have r1 := hr 1 (by decide)
    have w0 := hw 0 (by decide)
    have w1 := hw 1 (by decide)
    simp only [at0_cons, at0_1] at r0 r1 w0 w1
    have e := bits_and x.toNat y.toNat (lt_n32 r0 w0.2) (lt_n32 r1 w1.2)
    rw [toNat_of r0.1, toNat_of r1.1] at e
    have := ap_3 bs H W v x y ar [.int .i64 p, .int .i64 q] lv hW0 hW16
    rw [e] at this
    exact this
  | 4, _, [x, y], _, [p, q], _ =>
    have r0 := hr 0 (by decide)
    have r1 := hr 1 (by decide)
    have w0 := hw 0 (by decide)
    have w1 := hw 1 (by decide)
    simp only [at0_cons, at0_1] at r0 r1 w0 w1
    have e := bits_or x.toNat y.toNat (lt_n32 r0 w0.2) (lt_n32 r1 w1.2)
    rw [toNat_of r0.1, toNat_of r1.1] at e
    have := ap_4 bs H W v x y ar [.int .i64 p, .int .i64 q] lv hW0 hW16
    rw [e] at this
    exact this
  | 5, _, [x, y], _, [p, q], _ =>
    have r0 := hr 0 (by decide)
    have r1 := hr 1 (by decide)
    have w0 := hw 0 (by decide)
    have w1 := hw 1 (by decide)
    simp only [at0_cons, at0_1] at r0 r1 w0 w1
    have e := bits_xor x.toNat y.toNat (lt_n32 r0 w0.2) (lt_n32 r1 w1.2)
    rw [toNat_of r0.1, toNat_of r1.1] at e
    have := ap_5 bs H W v x y ar [.int .i64 p, .int .i64 q] lv hW0 hW16
    rw [e] at this
    exact this
  | 6, _, [x, y], _, [p, q], _ =>
    have r0 := hr 0 (by decide)
    have r1 := hr 1 (by decide)
    have w0 := hw 0 (by decide)
    have w1 := hw 1 (by decide)
    simp only [at0_cons, at0_1] at r0 r1 w0 w1
    exact ap_6 bs H W v x y ar _ lv hW0 hW16 (r0.w16 w0.2) (r1.w16 w1.2)
  | 7, _, [x, y], _, [p, q], _ =>
    have r0 := hr 0 (by decide)
    have r1 := hr 1 (by decide)
    simp only [fitsS, List.any_cons, List.any_nil, Bool.or_false, Bool.not_eq_true', Bool.or_eq_false_iff, decide_eq_false_iff_not, Decidable.not_not] at hf
    obtain ⟨rfl, rfl⟩ := hf
    exact ap_7 bs H q v x y ar _ lv hW0 hW16 r0 r1
  | 8, _, [x, y], _, [p, q], _ =>
    have r0 := hr 0 (by decide)
    have r1 := hr 1 (by decide)
    have w0 := hw 0 (by decide)
    have w1 := hw 1 (by decide)
    simp only [at0_cons, at0_1] at r0 r1 w0 w1
    exact ap_8 bs H W v x y ar _ lv hW0 hW16 (r0.w16 w0.2) (r1.w16 w1.2)
  | 9, _, [x, y], _, [p, q], _ =>
    have := ap_9 bs H W v x y ar [.int .i64 p, .int .i64 q] lv hW0 hW16
    simp only [decide_eq_true_eq] at this
    exact this
  | 10, _, [x, y], _, [p, q], _ =>
    have := ap_10 bs H W v x y ar [.int .i64 p, .int .i64 q] lv hW0 hW16
    simp only [decide_eq_true_eq] at this
    exact this
  | 11, _, [x, y], _, [p, q], _ =>
    have r0 := hr 0 (by decide)
    have r1 := hr 1 (by decide)
    have w0 := hw 0 (by decide)
    have hf2 : (decide (W = 1) && decide (p = q)) = true := hf
    rw [Bool.and_eq_true] at hf2
    obtain rfl := of_decide_eq_true hf2.2
    simp only [at0_cons, at0_1] at r0 r1 w0
    have := ap_11 bs H W v x y p ar lv hW0 hW16 r0 r1 w0.1 w0.2
    simp only [decide_eq_true_eq] at this
    exact this
  | 12, _, [x, y, z], _, [p, q, r], _ => exact ap_12 bs H W v x y z ar _ lv hW0 hW16
  | 13, _, [x, y], _, [p, q], _ =>
    have r0 := hr 0 (by decide)
    have r1 := hr 1 (by decide)
    have w0 := hw 0 (by decide)
    have w1 := hw 1 (by decide)
    simp only [at0_cons, at0_1] at r0 r1 w0 w1
    exact ap_13 bs H W v x y p q ar lv hW0 hW16 (r0.w16 w0.2) r1 (by omega) w1.2
  | 14, _, [x], _, [p], _ =>
    have r0 := hr 0 (by decide)
    have w0 := hw 0 (by decide)
    simp only [at0_cons] at r0 w0
    have hv' := hv rfl
    exact ap_14 bs H W v x ar _ lv hW0 hW16 (r0.w16 w0.2) hv'.1 (by omega)
  | 15, _, [x], _, [p], _ => exact ap_15 bs H W v x ar _ lv hW0 hW16
  | 16, _, [x], _, [p], _ =>
    have r0 := hr 0 (by decide)
    have w0 := hw 0 (by decide)
    simp only [at0_cons] at r0 w0
    have hf2 : p ≤ W := of_decide_eq_true hf
    exact ap_16 bs H W v x p ar [] lv hW0 hW16 r0 w0.1 hf2
  | 17, _, [x, y], _, [p, q], _ =>
    have r0 := hr 0 (by decide)
    have r1 := hr 1 (by decide)
    have w0 := hw 0 (by decide)
    simp only [at0_cons, at0_1] at r0 r1 w0
    exact ap_17 bs H W v x y ar _ lv hW0 hW16 (r0.w16 w0.2) r1.1
  | 18, _, [x, y], _, [p, q], _ =>
    have r0 := hr 0 (by decide)
    have r1 := hr 1 (by decide)
    have w0 := hw 0 (by decide)
    simp only [at0_cons, at0_1] at r0 r1 w0
    exact ap_18 bs H W v x y ar _ lv hW0 hW16 (r0.w16 w0.2) r1.1
  | k + 19, hk, _, _, _, _ => omega
end Go.E
/- Contracts of the references' base, in E: the values of nodes. Own work. -/
namespace Go.E
open Go.Proofs
set_option maxRecDepth 100000
set_option maxHeartbeats 4000000

theorem fill_lt {α : Type} (f : α → V) (z : V) (l : List α) (i j : Nat) (x : α) (hj : j < i) (h : l[j]? = some x) : (fill f z l i)[j]? = some (f x) := by
  unfold fill
  have hl := (List.getElem?_eq_some_iff.1 h).1
  rw [List.getElem?_append_left (by simp; omega), List.getElem?_map, List.getElem?_take, if_pos hj, h]; rfl
theorem valsL_pre (nodes : List Node) (lv : List Int) (i : Nat) : ∀ k j, j < i → (valsL nodes lv (i + k))[j]? = (valsL nodes lv i)[j]?
  | 0, j, _ => rfl
  | k + 1, j, h => by
    rw [show i + (k + 1) = (i + k) + 1 by omega, valsL, List.getElem?_append_left (by rw [valsL_len]; omega)]
    exact valsL_pre nodes lv i k j h
theorem nv_inner (bs : List Nat) (G : Heap) (b i : Nat) (A : List V) (nodes : List Node) (x : Node) (done : List Int) (hx : nodes[i]? = some x) (hA : G[b]? = some (.arr A 0)) (hal : x.args.length ≤ 1000000)
    (hget : ∀ n ∈ x.args, 0 ≤ n ∧ n < nodes.length ∧ A[n.toNat]? = some (.int .i64 (at0 done n.toNat))) :
    ∀ k ρ H', k ≤ x.args.length → (∃ vs ws, vs = valsOf done (x.args.take k) ∧ ws = widthsOf nodes (x.args.take k) ∧ H' = G ++ [.tok vs.length, .tok ws.length] ∧ ρ 0 = .list (nodes.map encNode) ∧ ρ 5 = .ref 1 b 0 0 nodes.length ∧ ρ 6 = .int .i64 i ∧
        ρ 7 = .tl G.length (vs.map (.int .i64)) ∧ ρ 8 = .tl (G.length + 1) (ws.map (.int .i64)) ∧ ρ 9 = .int .i64 k) →
      Lp X ⟨70, bs⟩ (loopAt Tryz.f97 1) ρ H' fun ex ρ' H' => H' = G ++ [.tok x.args.length, .tok x.args.length] ∧ ex = .exit 2 ∧ ρ' 7 = .tl G.length ((valsOf done x.args).map (.int .i64)) ∧ ρ' 8 = .tl (G.length + 1) ((widthsOf nodes x.args).map (.int .i64)) := by
  have hA2 := get_app hA
  clear hA
  refine loop_up ?_ ?_
  · rintro k ρ H' hk ⟨vs, ws, hvs, hws, rfl, h0, h5, h6, h7, h8, h9⟩
    have hg : x.args[k]? = some x.args[k] := by simp [hk]
    have hm := hget x.args[k] (List.getElem_mem hk)
    have htk : x.args.take (k + 1) = x.args.take k ++ [x.args[k]] := by rw [List.take_add_one, hg]; rfl
    generalize x.args[k] = n at hg hm htk
    obtain ⟨m, rfl⟩ : ∃ m : Nat, n = m := ⟨n.toNat, by omega⟩
    have hlt : m < nodes.length := by omega
    have hget2 : nodes[m]? = some nodes[m] := by simp [hlt]
    have hgA := hm.2.2
    rw [Int.toNat_natCast] at hgA
    have hsn := widthsOf_snoc nodes (x.args.take k) m nodes[m] (by simp)
    have hsv : valsOf done (x.args.take k ++ [(m : Int)]) = valsOf done (x.args.take k) ++ [at0 done m] := by simp [valsOf]
    generalize nodes[m] = y at hget2 hsn
    generalize at0 done m = z at hgA hsv
    have hlen : ws.length = k := by rw [hws]; simp [widthsOf]; omega
    have hlenv : vs.length = k := by rw [hvs]; simp [valsOf]; omega
    have hroom := room8 ws.length (by omega)
    have hroomv := room8 vs.length (by omega)
    have hw := add1 k x.args.length hk hal
    rw [← hws, ← htk] at hsn
    rw [← hvs, ← htk] at hsv
    replace hws : Kp (ws = widthsOf nodes (x.args.take k)) := ⟨hws⟩
    replace hvs : Kp (vs = valsOf done (x.args.take k)) := ⟨hvs⟩
    replace hsn : Kp (widthsOf nodes (x.args.take (k + 1)) = ws ++ [y.width]) := ⟨hsn⟩
    replace hsv : Kp (valsOf done (x.args.take (k + 1)) = vs ++ [z]) := ⟨hsv⟩
    replace hlen : Kp (ws.length = k) := ⟨hlen⟩
    replace hlenv : Kp (vs.length = k) := ⟨hlenv⟩
    clear htk hm hget
    conv => arg 3; whnf
    repeat' first
     | (apply z51 (id := 9) (ord := [0, 1, 2, 3, 4, 5, 6, 7, 8, 9, 10, 11, 12, 14, 15, 16, 17, 18, 19, 20, 21, 22, 23, 24, 25, 26, 27, 13, 28, 29, 30]) (ps := [(19, 27), (22, 27), (25, 27), (26, 27)]) <;> first | kernel_rfl | skip)
     | (refine zs ?_; repeat' first | apply zs0 | apply zs2 | (intro hc; try have hq := dq hc)) | fail
    exact ⟨vs ++ [z], ws ++ [y.width], hsv.out.symm, hsn.out.symm, by simp, by (simp only [seval, push_cast, *] <;> rfl), by (simp only [seval, push_cast, *] <;> rfl), by (simp only [seval, push_cast, *] <;> rfl), by simp [push_cast], by simp [push_cast], by (simp only [seval, push_cast, *] <;> rfl)⟩
  · rintro ρ H' ⟨vs, ws, hvs, hws, rfl, h0, h5, h6, h7, h8, h9⟩
    rw [List.take_length] at hws hvs
    have hlen : ws.length = x.args.length := by rw [hws]; simp [widthsOf]
    have hlenv : vs.length = x.args.length := by rw [hvs]; simp [valsOf]
    replace hws : Kp (ws = widthsOf nodes x.args) := ⟨hws⟩
    replace hvs : Kp (vs = valsOf done x.args) := ⟨hvs⟩
    replace hlen : Kp (ws.length = x.args.length) := ⟨hlen⟩
    replace hlenv : Kp (vs.length = x.args.length) := ⟨hlenv⟩
    clear hget
    conv => arg 3; whnf
    repeat' first
     | (apply z51 (id := 9) (ord := [0, 1, 2, 3, 4, 5, 6, 7, 8, 9, 10, 11, 12, 14, 15, 16, 17, 18, 19, 20, 21, 22, 23, 24, 25, 26, 27, 13, 28, 29, 30]) (ps := [(19, 27), (22, 27), (25, 27), (26, 27)]) <;> first | kernel_rfl | skip)
     | (refine zs ?_; repeat' first | apply zs0 | apply zs2 | (intro hc; try have hq := dq hc)) | fail
    exact ⟨by rw [hlen.out, hlenv.out], rfl, by rw [← hvs.out]; (simp only [seval, push_cast, *] <;> rfl), by rw [← hws.out]; (simp only [seval, push_cast, *] <;> rfl)⟩

theorem nv_apply {leaves lv : List Int} {nodes : List Node} {i : Nat} {x : Node} (hg : GoodAll leaves nodes) (hl : LeafOk leaves lv) (hx : nodes[i]? = some x) (bs : List Nat) (H : Heap) :
    callw X bs 153 [.agg [.int .i64 x.op, .int .i64 x.width, .list (x.args.map (.int .i64)), .int .i64 x.value], .list ((valsOf (valsL nodes lv i) x.args).map (.int .i64)), .list ((widthsOf nodes x.args).map (.int .i64)), .list (lv.map (.int .i64))] H
      = some (.int .i64 (valN nodes lv (valsL nodes lv i) x), H) := by
  have g := hg i x hx
  have hil := (List.getElem?_eq_some_iff.1 hx).1
  unfold valN
  by_cases h1 : x.op = 1
  · rw [if_pos h1]
    have hva := g.val
    rw [h1] at hva
    obtain ⟨a, b, c⟩ := value_leaf hva
    have hlr := hl.1
    have h2 : x.value.toNat < lv.length := by omega
    have := ap_1 bs H x.width x.value.toNat lv[x.value.toNat] (x.args.map (.int .i64)) ((valsOf (valsL nodes lv i) x.args).map (.int .i64)) ((widthsOf nodes x.args).map (.int .i64)) lv (by have := g.W1; omega) g.W16 (by simp [h2])
    rw [Int.toNat_of_nonneg a] at this
    rw [h1, at0_get (l := lv) (i := x.value.toNat) (v := lv[x.value.toNat]) (by simp [h2])]
    exact this
  · rw [if_neg h1]
    have hok := vals_ok.okArgs hg hl (vals_ok hg hl i (by omega)) hx
    have := apply_call bs H x.op.toNat x.width x.value (x.args.map (.int .i64)) (lv.map (.int .i64)) _ _ hok (by have := g.op0; omega)
    rw [Int.toNat_of_nonneg g.op0] at this
    exact this
theorem nv_outer (bs : List Nat) (H : Heap) (t : HObj) (leaves lv : List Int) (nodes : List Node) (hn : nodes.length ≤ 1000) (hal : ∀ x ∈ nodes, x.args.length ≤ 1000000) (hg : GoodAll leaves nodes) (hl : LeafOk leaves lv) :
    ∀ i ρ H', i ≤ nodes.length → (∃ junk, H' = H ++ t :: .arr (fill (V.int .i64) (.int .i64 0) (valsL nodes lv nodes.length) i) 0 :: junk ∧ ρ 0 = .list (nodes.map encNode) ∧ ρ 1 = .list (lv.map (.int .i64)) ∧ ρ 5 = .ref 1 (H.length + 1) 0 0 nodes.length ∧ ρ 6 = .int .i64 i) →
      Lp X ⟨70, bs⟩ (loopAt Tryz.f97 0) ρ H' fun ex ρ' H' => ∃ junk, H' = H ++ t :: .arr ((valsL nodes lv nodes.length).map (.int .i64)) 0 :: junk ∧ ρ' 5 = .ref 1 (H.length + 1) 0 0 nodes.length ∧ ex = .exit 0 := by
  have hvl := valsL_len nodes lv nodes.length
  refine loop_up ?_ ?_
  · rintro i ρ H' hi ⟨junk, rfl, h0, h1, h5, h6⟩
    have hget : nodes[i]? = some nodes[i] := by simp [hi]
    have hal' := hal nodes[i] (List.getElem_mem hi)
    have g := hg i nodes[i] hget
    have hap := fun bs H => nv_apply hg hl hget bs H
    have hsv := valsL_succ nodes lv i nodes[i] hget
    have hlen := valsL_len nodes lv i
    have hvi : (valsL nodes lv nodes.length)[i]? = some (valN nodes lv (valsL nodes lv i) nodes[i]) := by
      have := valsL_pre nodes lv (i + 1) (nodes.length - (i + 1)) i (by omega)
      rw [show i + 1 + (nodes.length - (i + 1)) = nodes.length by omega] at this
      rw [this, hsv, List.getElem?_append_right (by omega), hlen]; simp
    have hgA : ∀ n ∈ nodes[i].args, 0 ≤ n ∧ n < nodes.length ∧ (fill (V.int .i64) (.int .i64 0) (valsL nodes lv nodes.length) i)[n.toNat]? = some (.int .i64 (at0 (valsL nodes lv i) n.toNat)) := fun n hnm => by
      have h := g.args n hnm
      have hpre := valsL_pre nodes lv i (nodes.length - i) n.toNat (by omega)
      rw [show i + (nodes.length - i) = nodes.length by omega] at hpre
      have h3 : n.toNat < (valsL nodes lv i).length := by omega
      refine ⟨h.1, by omega, ?_⟩
      rw [at0_get (l := valsL nodes lv i) (i := n.toNat) (v := (valsL nodes lv i)[n.toNat]) (by simp [h3])]
      exact fill_lt _ _ _ _ _ _ (by omega) (by rw [hpre]; simp [h3])
    have hs := fill_set (V.int .i64) (.int .i64 0) (valsL nodes lv nodes.length) i _ hvi
    have hz := fill_get (V.int .i64) (.int .i64 0) (valsL nodes lv nodes.length) i (by omega)
    have hw := add1 i nodes.length hi (by omega)
    have hin := fun (bs : List Nat) (ρ : Env) (H' : Heap) => nv_inner bs (H ++ t :: .arr (fill (V.int .i64) (.int .i64 0) (valsL nodes lv nodes.length) i) 0 :: junk) (H.length + 1) i _ nodes nodes[i] (valsL nodes lv i) hget (by simp) hal' hgA 0 ρ H'
    clear hgA hsv hlen hvi g hg hl hal hal'
    generalize nodes[i] = x at hget hap hs hin
    generalize valN nodes lv (valsL nodes lv i) x = z at hap hs
    generalize valsL nodes lv i = dn at hap hin
    generalize hfi : fill (V.int .i64) (.int .i64 0) (valsL nodes lv nodes.length) i = A at hs hz hin ⊢
    replace hfi : Kp (fill (V.int .i64) (.int .i64 0) (valsL nodes lv nodes.length) i = A) := ⟨hfi⟩
    generalize hfj : fill (V.int .i64) (.int .i64 0) (valsL nodes lv nodes.length) (i + 1) = B at hs ⊢
    clear hfi hvl
    conv => arg 3; whnf
    repeat' first
     | (apply z51 (id := 9) (ord := [0, 1, 2, 3, 4, 5, 6, 7, 8, 9, 10, 11, 12, 14, 15, 16, 17, 18, 19, 20, 21, 22, 23, 24, 25, 26, 27, 13, 28, 29, 30]) (ps := [(19, 27), (22, 27), (25, 27), (26, 27)]) <;> first | kernel_rfl | skip)
     | (refine zs ?_; repeat' first | apply zs0 | apply zs2 | (intro hc; try have hq := dq hc)) | fail
    refine lp_then (lp_any (c := loopAt Tryz.f97 1) rfl (hin _ _ _ (by omega) ⟨[], [], rfl, rfl, by simp, by (simp only [seval, push_cast, *] <;> rfl), by (simp only [seval, push_cast, *] <;> rfl), by (simp only [seval, push_cast, *] <;> rfl), by simp [push_cast], by (simp [push_cast]; omega), by (simp only [seval, push_cast, *] <;> rfl)⟩)) ?_
    rintro ex ρ' H' ⟨hH, rfl, h7, h8⟩ hf
    have f0 := hf 0 rfl
    have f1 := hf 1 rfl
    have f5 := hf 5 rfl
    have f6 := hf 6 rfl
    simp only [seval, push_cast, h0, h1, h5, h6] at f0 f1 f5 f6
    rw [List.append_assoc, List.cons_append, List.cons_append] at hH
    subst hH
    clear hin hf
    repeat' first
     | (apply z51 (id := 9) (ord := [0, 1, 2, 3, 4, 5, 6, 7, 8, 9, 10, 11, 12, 14, 15, 16, 17, 18, 19, 20, 21, 22, 23, 24, 25, 26, 27, 13, 28, 29, 30]) (ps := [(19, 27), (22, 27), (25, 27), (26, 27)]) <;> first | kernel_rfl | skip)
     | (refine zs ?_; repeat' first | apply zs0 | apply zs2 | (intro hc; try have hq := dq hc)) | fail
    exact ⟨_, rfl, by (simp only [seval, push_cast, *] <;> rfl), by (simp only [seval, push_cast, *] <;> rfl), by (simp only [seval, push_cast, *] <;> rfl), by (simp only [seval, push_cast, *] <;> rfl)⟩
  · rintro ρ H' ⟨junk, rfl, h0, h1, h5, h6⟩
    rw [show fill (V.int .i64) (.int .i64 0) (valsL nodes lv nodes.length) nodes.length = (valsL nodes lv nodes.length).map (.int .i64) by rw [← fill_end (V.int .i64) (.int .i64 0), hvl]]
    clear hg hl hal
    conv => arg 3; whnf
    repeat' first
     | (apply z51 (id := 9) (ord := [0, 1, 2, 3, 4, 5, 6, 7, 8, 9, 10, 11, 12, 14, 15, 16, 17, 18, 19, 20, 21, 22, 23, 24, 25, 26, 27, 13, 28, 29, 30]) (ps := [(19, 27), (22, 27), (25, 27), (26, 27)]) <;> first | kernel_rfl | skip)
     | (refine zs ?_; repeat' first | apply zs0 | apply zs2 | (intro hc; try have hq := dq hc)) | fail
    exact ⟨junk, rfl, by (simp only [seval, push_cast, *] <;> rfl), rfl⟩

theorem bs_nodeValues (bs : List Nat) (H : Heap) (leaves lv : List Int) (nodes : List Node) (hn : nodes.length ≤ 1000) (hal : ∀ x ∈ nodes, x.args.length ≤ 1000000) (hg : GoodAll leaves nodes) (hl : LeafOk leaves lv) : callw X bs 97 [.list (nodes.map encNode), .list (lv.map (.int .i64))] H = some (.list ((valsL nodes lv nodes.length).map (.int .i64)), H) := by
  refine call_at (rs := [.tmp 4]) (N := 70) (fn := Tryz.f97) xk97 xf97 rfl rfl rfl (by simp only [seval, push_cast, List.map_cons, List.map_nil, V.norm, norm1]; rfl) ?_
  have hloop := fun (bs : List Nat) (t : HObj) (ρ : Env) => nv_outer bs H t leaves lv nodes hn hal hg hl 0 ρ
  have hvl := valsL_len nodes lv nodes.length
  have h1 := room_of (n := nodes.length) (k := 8) (by omega) (by omega)
  have h2 := room_int (n := nodes.length) (by omega)
  have h3 := fill_0 (V.int .i64) (.int .i64 0) (valsL nodes lv nodes.length)
  rw [hvl] at h3
  replace h3 : Kp (fill (V.int .i64) (.int .i64 0) (valsL nodes lv nodes.length) 0 = List.replicate nodes.length (.int .i64 0)) := ⟨h3⟩
  replace hvl : Kp ((valsL nodes lv nodes.length).length = nodes.length) := ⟨hvl⟩
  clear hal hg hl
  repeat' first
   | (apply z51 (id := 9) (ord := [0, 1, 2, 3, 4, 5, 6, 7, 8, 9, 10, 11, 12, 14, 15, 16, 17, 18, 19, 20, 21, 22, 23, 24, 25, 26, 27, 13, 28, 29, 30]) (ps := [(19, 27), (22, 27), (25, 27), (26, 27)]) <;> first | kernel_rfl | skip)
   | (refine zs ?_; repeat' first | apply zs0 | apply zs2 | (intro hc; try have hq := dq hc)) | fail
  refine lp_then (lp_any (c := loopAt Tryz.f97 0) rfl (hloop _ _ _ _ (by omega) ⟨[], by rw [h3.out], by (simp only [seval, push_cast, *] <;> rfl), by (simp only [seval, push_cast, *] <;> rfl), by (simp only [seval, push_cast, *] <;> rfl), by (simp only [seval, push_cast, *] <;> rfl)⟩)) ?_
  rintro ex ρ' H' ⟨junk, rfl, f5, rfl⟩ hf
  rw [← hvl.out] at f5
  clear hloop hvl h1 h2 h3 hf hn
  generalize valsL nodes lv nodes.length = vals at f5 ⊢
  repeat' first
   | (apply z51 (id := 9) (ord := [0, 1, 2, 3, 4, 5, 6, 7, 8, 9, 10, 11, 12, 14, 15, 16, 17, 18, 19, 20, 21, 22, 23, 24, 25, 26, 27, 13, 28, 29, 30]) (ps := [(19, 27), (22, 27), (25, 27), (26, 27)]) <;> first | kernel_rfl | skip)
   | (refine zs ?_; repeat' first | apply zs0 | apply zs2 | (intro hc; try have hq := dq hc)) | fail
end Go.E
/- Contracts of the references' base, in E: a step of a netlist. Own work. -/
namespace Go.E
open Go.Proofs
set_option maxRecDepth 100000
set_option maxHeartbeats 4000000

theorem kn_leaf (bs : List Nat) (H : Heap) (a b : List Int) (h : a.length + b.length ≤ 1000000) :
    callw X bs 98 [.list (a.map (.int .i64)), .list (b.map (.int .i64))] H = some (.list ((a ++ b).map (.int .i64)), H) := by
  refine known_call (fn := Tryz.f98) xf98 rfl rfl ?_
  show joinV [.list (a.map (.int .i64)), .list (b.map (.int .i64))] = _
  simp only [joinV, intsOf_map, Option.bind_some, if_pos h]
theorem fr_ints (a : List Int) (h0 : 0 < a.length) (h : a.length ≤ 1000000) : X.fresh 20 [.list (a.map (.int .i64))] = some (1, a.map (.int .i64)) := by
  show freshI [20] 20 [.list (a.map (.int .i64))] = _
  simp [freshI, intsOf_map, h0, h]
theorem fr_nils : X.fresh 20 [.list []] = none := rfl
def mixL (regs : List Reg) (vals state : List Int) (i : Nat) : List Int := nextL regs vals state i ++ state.drop i
theorem mix_len {regs : List Reg} {vals state : List Int} {i : Nat} (h : i ≤ state.length) : (mixL regs vals state i).length = state.length := by
  simp [mixL, nextL_len]; omega
theorem mix_set {regs : List Reg} {vals state : List Int} {i : Nat} {r : Reg} (hr : regs[i]? = some r) (h : i < state.length) : (mixL regs vals state i).set i (nextV vals state i r) = mixL regs vals state (i + 1) := by
  unfold mixL
  rw [nextL_succ _ _ _ _ _ hr, List.set_append_right _ _ (by rw [nextL_len]; omega), nextL_len, Nat.sub_self, List.drop_eq_getElem_cons h]
  simp only [List.set_cons_zero, List.append_assoc, List.cons_append, List.nil_append]
theorem mix_same {regs : List Reg} {vals state : List Int} {i : Nat} {r : Reg} (hr : regs[i]? = some r) (h : i < state.length) (he : nextV vals state i r = state[i]) : mixL regs vals state i = mixL regs vals state (i + 1) := by
  unfold mixL
  rw [nextL_succ _ _ _ _ _ hr, he, List.drop_eq_getElem_cons h]
  simp
section
variable (n : Netl) (vals state : List Int)
theorem ns_outs (bs : List Nat) (H : Heap) (t1 t2 : HObj) (J : List HObj) (hl : n.outs.length ≤ 1000) (hn : ∀ o ∈ n.outs, 0 ≤ o.node ∧ o.node < vals.length) :
    ∀ i ρ H', i ≤ n.outs.length → (H' = H ++ .cells (cellsNetl n) :: t1 :: t2 :: .arr (fill (fun o : Outp => .int .i64 (at0 vals o.node.toNat)) (.int .i64 0) n.outs i) 0 :: J ∧ ρ 3 = .ptr H.length 0 ∧ ρ 8 = .list (vals.map (.int .i64)) ∧
        ρ 9 = .ref 1 (H.length + 3) 0 0 n.outs.length ∧ ρ 11 = .int .i64 i) →
      Lp X ⟨75, H.length :: bs⟩ (loopAt Tryz.f30 0) ρ H' fun ex ρ' H' => H' = H ++ .cells (cellsNetl n) :: t1 :: t2 :: .arr ((outsS n vals).map (.int .i64)) 0 :: J ∧ ex = .exit 0 := by
  refine loop_up ?_ ?_
  · rintro i ρ H' hi ⟨rfl, h3, h8, h9, h11⟩
    have hget : n.outs[i]? = some n.outs[i] := by simp [hi]
    have hm := hn n.outs[i] (List.getElem_mem hi)
    have hz := fill_get (fun o : Outp => V.int .i64 (at0 vals o.node.toNat)) (.int .i64 0) n.outs i hi
    have hs := fill_set (fun o : Outp => V.int .i64 (at0 vals o.node.toNat)) (.int .i64 0) n.outs i n.outs[i] hget
    generalize n.outs[i] = o at hget hm hs
    obtain ⟨nm, nd⟩ := o
    simp only at hm hs
    obtain ⟨m, rfl⟩ : ∃ m : Nat, nd = m := ⟨nd.toNat, by omega⟩
    have hlt : m < vals.length := by omega
    have hget2 : vals[m]? = some vals[m] := by simp [hlt]
    have hat : at0 vals m = vals[m] := by simp [at0, hlt]
    simp only [Int.toNat_natCast, hat] at hs
    generalize vals[m] = z at hget2 hs
    have hw := add1 i n.outs.length hi (by omega)
    clear hm hlt hn hat
    generalize fill (fun o : Outp => V.int .i64 (at0 vals o.node.toNat)) (.int .i64 0) n.outs i = A at hz hs ⊢
    generalize fill (fun o : Outp => V.int .i64 (at0 vals o.node.toNat)) (.int .i64 0) n.outs (i + 1) = B at hs ⊢
    conv => arg 3; whnf
    all_goals try (refine zs ?_; repeat' first | apply zs0 | apply zs2 | (intro hc; try have hq := dq hc))
    exact ⟨by simp only [cellsNetl], by (simp only [seval, push_cast, *] <;> rfl), by (simp only [seval, push_cast, *] <;> rfl), by (simp only [seval, push_cast, *] <;> rfl), by (simp only [seval, push_cast, *] <;> rfl)⟩
  · rintro ρ H' ⟨rfl, h3, h8, h9, h11⟩
    rw [fill_end]
    clear hn
    conv => arg 3; whnf
    all_goals try (refine zs ?_; repeat' first | apply zs0 | apply zs2 | (intro hc; try have hq := dq hc))
    exact ⟨by simp only [cellsNetl, outsS, List.map_map]; rfl, rfl⟩

theorem ns_regs (bs : List Nat) (H : Heap) (t1 t2 t3 : HObj) (hl : n.regs.length ≤ 1000) (hs : state.length = n.regs.length) (hn : ∀ r ∈ n.regs, (0 ≤ r.enable ∧ r.enable < vals.length) ∧ 0 ≤ r.next ∧ r.next < vals.length) :
    ∀ i ρ H', i ≤ n.regs.length → (H' = H ++ .cells (cellsNetl n) :: t1 :: t2 :: t3 :: [.arr ((mixL n.regs vals state i).map (.int .i64)) 0] ∧ ρ 3 = .ptr H.length 0 ∧ ρ 8 = .list (vals.map (.int .i64)) ∧
        ρ 10 = .ref 1 (H.length + 4) 0 0 n.regs.length ∧ ρ 12 = .int .i64 i) →
      Lp X ⟨75, H.length :: bs⟩ (loopAt Tryz.f30 1) ρ H' fun ex ρ' H' => H' = H ++ .cells (cellsNetl n) :: t1 :: t2 :: t3 :: [.arr ((nextL n.regs vals state n.regs.length).map (.int .i64)) 0] ∧ ex = .exit 2 := by
  refine loop_up ?_ ?_
  · rintro i ρ H' hi ⟨rfl, h3, h8, h10, h12⟩
    have hget : n.regs[i]? = some n.regs[i] := by simp [hi]
    have hm := hn n.regs[i] (List.getElem_mem hi)
    have hst : i < state.length := by omega
    have hset := mix_set (vals := vals) hget hst
    have hsame := mix_same (vals := vals) hget hst
    have hlen := mix_len (regs := n.regs) (vals := vals) (state := state) (i := i) (by omega)
    generalize n.regs[i] = r at hget hm hset hsame
    obtain ⟨nm, wd, ini, en, nx⟩ := r
    simp only at hm
    obtain ⟨e, rfl⟩ : ∃ m : Nat, en = m := ⟨en.toNat, by omega⟩
    obtain ⟨x, rfl⟩ : ∃ m : Nat, nx = m := ⟨nx.toNat, by omega⟩
    have he : e < vals.length := by omega
    have hx : x < vals.length := by omega
    have ge : vals[e]? = some vals[e] := by simp [he]
    have gx : vals[x]? = some vals[x] := by simp [hx]
    have hv : nextV vals state i ⟨nm, wd, ini, e, x⟩ = if vals[e] = 1 then vals[x] else state[i] := by simp [nextV, at0, he, hx, hst]
    rw [hv] at hset hsame
    clear hv
    generalize vals[e] = ve at ge hset hsame
    generalize vals[x] = vx at gx hset hsame
    have hw := add1 i n.regs.length hi (by omega)
    obtain ⟨y, hgA⟩ : ∃ y, ((mixL n.regs vals state i).map (V.int .i64))[i]? = some (.int .i64 y) := ⟨(mixL n.regs vals state i)[i]'(by omega), by simp [show i < (mixL n.regs vals state i).length by omega]⟩
    clear hm he hx hn hs
    by_cases h1 : ve = 1
    · have d : decide (ve = 1) = true := decide_eq_true h1
      rw [if_pos h1] at hset
      have hs2 : ((mixL n.regs vals state i).map (V.int .i64)).set i (.int .i64 vx) = (mixL n.regs vals state (i + 1)).map (.int .i64) := by rw [← hset, List.map_set]
      clear h1 hset hsame hst hlen
      generalize (mixL n.regs vals state i).map (V.int .i64) = A at hgA hs2 ⊢
      generalize (mixL n.regs vals state (i + 1)).map (V.int .i64) = B at hs2 ⊢
      conv => arg 3; whnf
      all_goals try (refine zs ?_; repeat' first | apply zs0 | apply zs2 | (intro hc; try have hq := dq hc))
      exact ⟨by simp only [cellsNetl], by (simp only [seval, push_cast, *] <;> rfl), by (simp only [seval, push_cast, *] <;> rfl), by (simp only [seval, push_cast, *] <;> rfl), by (simp only [seval, push_cast, *] <;> rfl)⟩
    · have d : decide (ve = 1) = false := decide_eq_false h1
      rw [if_neg h1] at hsame
      have hs2 := hsame rfl
      clear h1 hset hsame hst hlen hgA
      rw [hs2]
      generalize (mixL n.regs vals state (i + 1)).map (V.int .i64) = B
      clear hs2
      conv => arg 3; whnf
      all_goals try (refine zs ?_; repeat' first | apply zs0 | apply zs2 | (intro hc; try have hq := dq hc))
      exact ⟨by simp only [cellsNetl], by (simp only [seval, push_cast, *] <;> rfl), by (simp only [seval, push_cast, *] <;> rfl), by (simp only [seval, push_cast, *] <;> rfl), by (simp only [seval, push_cast, *] <;> rfl)⟩
  · rintro ρ H' ⟨rfl, h3, h8, h10, h12⟩
    have hmx : mixL n.regs vals state n.regs.length = nextL n.regs vals state n.regs.length := by simp [mixL, ← hs]
    rw [hmx]
    clear hn hs hmx
    conv => arg 3; whnf
    all_goals try (refine zs ?_; repeat' first | apply zs0 | apply zs2 | (intro hc; try have hq := dq hc))
    exact ⟨by simp only [cellsNetl], rfl⟩
theorem ns_regs0 (bs : List Nat) (H : Heap) (t1 t2 t3 : HObj) (J : List HObj) (h0 : n.regs.length = 0) :
    ∀ i ρ H', i ≤ n.regs.length → (H' = H ++ .cells (cellsNetl n) :: t1 :: t2 :: t3 :: J ∧ ρ 3 = .ptr H.length 0 ∧ ρ 12 = .int .i64 i) →
      Lp X ⟨75, H.length :: bs⟩ (loopAt Tryz.f30 1) ρ H' fun ex ρ' H' => H' = H ++ .cells (cellsNetl n) :: t1 :: t2 :: t3 :: J ∧ ex = .exit 2 := by
  refine loop_up ?_ ?_
  · rintro i ρ H' hi _
    omega
  · rintro ρ H' ⟨rfl, h3, h12⟩
    clear h0
    conv => arg 3; whnf
    all_goals try (refine zs ?_; repeat' first | apply zs0 | apply zs2 | (intro hc; try have hq := dq hc))
    exact ⟨by simp only [cellsNetl], rfl⟩
end

theorem bs_netStep (bs : List Nat) (H : Heap) (n : Netl) (ins state : List Int) (hS : Small n) (hk : NetOk n) (hl : LeafOk (leavesN n) (ins ++ state)) (hst : state.length = n.regs.length) : callw X bs 30 [encNetl n, .list (ins.map (.int .i64)), .list (state.map (.int .i64))] H = some (.tuple [.list ((stepN n ins state).1.map (.int .i64)), .list ((stepN n ins state).2.map (.int .i64))], H) := by
  refine call_at (rs := [.tmp 6, .tmp 7]) (N := 75) (fn := Tryz.f30) xk30 xf30 rfl rfl rfl (by simp only [seval, push_cast, List.map_cons, List.map_nil, V.norm, norm1]; rfl) ?_
  have hvl : (valsN n ins state).length = n.nodes.length := valsL_len _ _ _
  have hlen := hl.1
  rw [widthsL_len, List.length_append] at hlen
  have s1 := hS.inputs
  have s2 := hS.regs
  have s3 := hS.nodes
  have s4 := hS.outs
  have t2 := fun bs H => kn_leaf bs H ins state (by omega)
  have t3 := fun bs H => bs_nodeValues bs H (leavesN n) (ins ++ state) n.nodes (by omega) (fun x hx => Nat.le_trans (hS.args x hx) (by omega)) (goodAll_of hk.nodes) hl
  have l1 := fun (bs : List Nat) (t1 t2 : HObj) (J : List HObj) (ρ : Env) => ns_outs n (valsN n ins state) bs H t1 t2 J s4 (fun o ho => by rw [hvl]; exact hk.outs o ho) 0 ρ
  have l2 := fun (bs : List Nat) (t1 t2 t3 : HObj) (ρ : Env) => ns_regs n (valsN n ins state) state bs H t1 t2 t3 s2 hst (fun r hr => by rw [hvl]; exact hk.regs r hr) 0 ρ
  have r1 := room_of (n := n.outs.length) (k := 8) (by omega) (by omega)
  have r2 := room_int (n := n.outs.length) (by omega)
  have r3 := fill_0 (fun o : Outp => V.int .i64 (at0 (valsN n ins state) o.node.toNat)) (.int .i64 0) n.outs
  replace r3 : Kp (fill (fun o : Outp => V.int .i64 (at0 (valsN n ins state) o.node.toNat)) (.int .i64 0) n.outs 0 = List.replicate n.outs.length (.int .i64 0)) := ⟨r3⟩
  unfold stepN
  have hv : valsL n.nodes (ins ++ state) n.nodes.length = valsN n ins state := rfl
  have ho : (outsS n (valsN n ins state)).length = n.outs.length := by simp [outsS]
  have hnl := nextL_len n.regs (valsN n ins state) state n.regs.length
  rw [hv] at t3
  have hmix : mixL n.regs (valsN n ins state) state 0 = state := by simp [mixL, nextL]
  generalize valsN n ins state = vals at t3 l1 l2 r3 ho hnl hmix ⊢
  replace ho : Kp ((outsS n vals).length = n.outs.length) := ⟨ho⟩
  replace hnl : Kp ((nextL n.regs vals state n.regs.length).length = n.regs.length) := ⟨hnl⟩
  replace hmix : Kp (mixL n.regs vals state 0 = state) := ⟨hmix⟩
  by_cases h0 : 0 < state.length
  · have hfr := fr_ints state h0 (by omega)
    clear hS hk hl hvl hlen s1 s2 s3 s4 hv h0
    replace hst : Kp (state.length = n.regs.length) := ⟨hst⟩
    repeat' first
     | (apply z51 (id := 1) (ord := [0, 1, 2, 3, 4, 5, 6]) (ps := [(1, 4)]) <;> first | kernel_rfl | skip)
     | (apply z51 (id := 2) (ord := [0, 1, 2, 3, 4, 5, 6, 7]) (ps := [(1, 5), (3, 5)]) <;> first | kernel_rfl | skip)
     | (refine zs ?_; repeat' first | apply zs0 | apply zs2 | (intro hc; try have hq := dq hc)) | fail
    refine lp_then (lp_any (c := loopAt Tryz.f30 0) rfl (l1 _ _ _ _ _ _ (by omega) ⟨by rw [r3.out]; rfl, by (simp only [seval, push_cast, *] <;> rfl), by (simp only [seval, push_cast, *] <;> rfl), by (simp only [seval, push_cast, *] <;> rfl), by (simp only [seval, push_cast, *] <;> rfl)⟩)) ?_
    rintro ex ρ' H' ⟨rfl, rfl⟩ hf
    have f3 := hf 3 rfl
    have f8 := hf 8 rfl
    have f9 := hf 9 rfl
    have f10 := hf 10 rfl
    simp only [seval, push_cast] at f3 f8 f9 f10
    rw [hst.out] at f10
    rw [← ho.out] at f9
    clear l1 r3 hf r1 r2
    repeat' first
     | (apply z51 (id := 1) (ord := [0, 1, 2, 3, 4, 5, 6]) (ps := [(1, 4)]) <;> first | kernel_rfl | skip)
     | (apply z51 (id := 2) (ord := [0, 1, 2, 3, 4, 5, 6, 7]) (ps := [(1, 5), (3, 5)]) <;> first | kernel_rfl | skip)
     | (refine zs ?_; repeat' first | apply zs0 | apply zs2 | (intro hc; try have hq := dq hc)) | fail
    refine lp_then (lp_any (c := loopAt Tryz.f30 1) rfl (l2 _ _ _ _ _ _ (by omega) ⟨by rw [hmix.out]; rfl, by (simp only [seval, push_cast, *] <;> rfl), by (simp only [seval, push_cast, *] <;> rfl), by (simp only [seval, push_cast, *] <;> rfl), by (simp only [seval, push_cast, *] <;> rfl)⟩)) ?_
    rintro ex ρ'' H'' ⟨rfl, rfl⟩ hf2
    have g9 := hf2 9 rfl
    have g10 := hf2 10 rfl
    simp only [seval, push_cast] at g9 g10
    rw [f9] at g9
    rw [f10, ← hnl.out] at g10
    clear l2 hf2 f3 f8 f9 f10 hfr hmix
    generalize outsS n vals = A at g9 ⊢
    generalize nextL n.regs vals state n.regs.length = B at g10 ⊢
    repeat' first
     | (apply z51 (id := 1) (ord := [0, 1, 2, 3, 4, 5, 6]) (ps := [(1, 4)]) <;> first | kernel_rfl | skip)
     | (apply z51 (id := 2) (ord := [0, 1, 2, 3, 4, 5, 6, 7]) (ps := [(1, 5), (3, 5)]) <;> first | kernel_rfl | skip)
     | (refine zs ?_; repeat' first | apply zs0 | apply zs2 | (intro hc; try have hq := dq hc)) | fail
  · have hst0 : state = [] := List.eq_nil_of_length_eq_zero (by omega)
    subst hst0
    have hr0 : n.regs.length = 0 := hst.symm
    have hrn : n.regs = [] := List.eq_nil_of_length_eq_zero hr0
    have e0 : nextL n.regs vals [] n.regs.length = [] := by rw [hr0]; rfl
    rw [e0]
    have l3 := fun (bs : List Nat) (t1 t2 t3 : HObj) (J : List HObj) (ρ : Env) => ns_regs0 n bs H t1 t2 t3 J hr0 0 ρ
    have t4 := fun bs H => bs_copyInts bs H [] (by simp)
    have hfr := fr_nils
    simp only [List.map_nil, List.append_nil] at t2 t3 t4 ⊢
    clear hS hk hl hvl hlen s1 s2 s3 s4 hv h0 hst hr0 hrn hmix hnl l2 e0
    repeat' first
     | (apply z51 (id := 1) (ord := [0, 1, 2, 3, 4, 5, 6]) (ps := [(1, 4)]) <;> first | kernel_rfl | skip)
     | (apply z51 (id := 2) (ord := [0, 1, 2, 3, 4, 5, 6, 7]) (ps := [(1, 5), (3, 5)]) <;> first | kernel_rfl | skip)
     | (refine zs ?_; repeat' first | apply zs0 | apply zs2 | (intro hc; try have hq := dq hc)) | fail
    refine lp_then (lp_any (c := loopAt Tryz.f30 0) rfl (l1 _ _ _ _ _ _ (by omega) ⟨by rw [r3.out]; rfl, by (simp only [seval, push_cast, *] <;> rfl), by (simp only [seval, push_cast, *] <;> rfl), by (simp only [seval, push_cast, *] <;> rfl), by (simp only [seval, push_cast, *] <;> rfl)⟩)) ?_
    rintro ex ρ' H' ⟨rfl, rfl⟩ hf
    have f3 := hf 3 rfl
    have f8 := hf 8 rfl
    have f9 := hf 9 rfl
    have f10 := hf 10 rfl
    simp only [seval, push_cast] at f3 f8 f9 f10
    rw [← ho.out] at f9
    clear l1 r3 hf r1 r2
    repeat' first
     | (apply z51 (id := 1) (ord := [0, 1, 2, 3, 4, 5, 6]) (ps := [(1, 4)]) <;> first | kernel_rfl | skip)
     | (apply z51 (id := 2) (ord := [0, 1, 2, 3, 4, 5, 6, 7]) (ps := [(1, 5), (3, 5)]) <;> first | kernel_rfl | skip)
     | (refine zs ?_; repeat' first | apply zs0 | apply zs2 | (intro hc; try have hq := dq hc)) | fail
    refine lp_then (lp_any (c := loopAt Tryz.f30 1) rfl (l3 _ _ _ _ _ _ _ (by omega) ⟨rfl, by (simp only [seval, push_cast, *] <;> rfl), by (simp only [seval, push_cast, *] <;> rfl)⟩)) ?_
    rintro ex ρ'' H'' ⟨rfl, rfl⟩ hf2
    have g9 := hf2 9 rfl
    have g10 := hf2 10 rfl
    simp only [seval, push_cast] at g9 g10
    rw [f9] at g9
    rw [f10] at g10
    clear l3 hf2 f3 f8 f9 f10 hfr
    generalize outsS n vals = A at g9 ⊢
    repeat' first
     | (apply z51 (id := 1) (ord := [0, 1, 2, 3, 4, 5, 6]) (ps := [(1, 4)]) <;> first | kernel_rfl | skip)
     | (apply z51 (id := 2) (ord := [0, 1, 2, 3, 4, 5, 6, 7]) (ps := [(1, 5), (3, 5)]) <;> first | kernel_rfl | skip)
     | (refine zs ?_; repeat' first | apply zs0 | apply zs2 | (intro hc; try have hq := dq hc)) | fail
end Go.E
/- Contracts of the references, in E: a trace. Own work. -/
namespace Go.E
open Go.Proofs
set_option maxRecDepth 100000
set_option maxHeartbeats 4000000

section
variable (n : Netl) (l : List (List Int))
theorem tr_loop (bs : List Nat) (H : Heap) (t1 t2 : HObj) (hS : Small n) (hk : NetOk n) (hl : l.length ≤ 1000) (he : (eachP (fun _ x => inErrS n x) 0 l).2 = 0) :
    ∀ i ρ H', i ≤ l.length → (∃ os ss junk, os = trL n l i ∧ ss = stL n l i ∧ H' = H ++ .cells (cellsNetl n) :: t1 :: t2 :: .tok os.length :: .tok ss.length :: junk ∧ ρ 1 = .list (l.map encInts) ∧ ρ 2 = .ptr H.length 0 ∧ ρ 6 = .list ((stAt n l i).map (.int .i64)) ∧
        ρ 7 = .tl (H.length + 3) (os.map encInts) ∧ ρ 8 = .tl (H.length + 4) (ss.map encInts) ∧ ρ 9 = .int .i64 i) →
      Lp X ⟨43, bs⟩ (loopAt Tryz.f28 0) ρ H' fun ex ρ' H' => ∃ os ss junk, os = trL n l l.length ∧ ss = stL n l l.length ∧ H' = H ++ .cells (cellsNetl n) :: t1 :: t2 :: .tok os.length :: .tok ss.length :: junk ∧ ex = .exit 0 ∧
        ρ' 7 = .tl (H.length + 3) (os.map encInts) ∧ ρ' 8 = .tl (H.length + 4) (ss.map encInts) := by
  refine loop_up ?_ ?_
  · rintro i ρ H' hi ⟨os, ss, junk, hos, hss, rfl, h1, h2, h6, h7, h8, h9⟩
    have hget : l[i]? = some l[i] := by simp [hi]
    have hze := eachP_ok _ l 0 he i l[i] hget
    have hr := run_ok hk he i (by omega)
    have hgD : l.getD i [] = l[i] := by simp [List.getD, hget]
    have hsn : trL n l (i + 1) = os ++ [(stepN n l[i] (stAt n l i)).1] := by rw [trL, ← hos, trAt, hgD]
    have hst : stL n l (i + 1) = ss ++ [(stepN n l[i] (stAt n l i)).2] := by rw [stL, ← hss, stAt, hgD]
    have hsx : stAt n l (i + 1) = (stepN n l[i] (stAt n l i)).2 := by rw [stAt, hgD]
    have t3 := fun bs H => bs_netStep bs H n l[i] (stAt n l i) hS hk (leafOk_of hk hze hr) hr.1
    simp only [encNetl, cellsNetl] at t3
    generalize l[i] = x at hget hsn hst hsx t3
    generalize stAt n l i = st at h6 hsn hst hsx t3
    have hlen : os.length = i := by rw [hos]; exact trL_len n l i
    have hlens : ss.length = i + 1 := by rw [hss]; exact stL_len n l i
    have hroom := room24 os.length (by omega)
    have hroom2 := room24 ss.length (by omega)
    have hw := add1 i l.length hi (by omega)
    generalize stepN n x st = q at hsn hst hsx t3
    replace hos : Kp (os = trL n l i) := ⟨hos⟩
    replace hss : Kp (ss = stL n l i) := ⟨hss⟩
    replace hsn : Kp (trL n l (i + 1) = os ++ [q.1]) := ⟨hsn⟩
    replace hst : Kp (stL n l (i + 1) = ss ++ [q.2]) := ⟨hst⟩
    replace hsx : Kp (stAt n l (i + 1) = q.2) := ⟨hsx⟩
    replace hlen : Kp (os.length = i) := ⟨hlen⟩
    replace hlens : Kp (ss.length = i + 1) := ⟨hlens⟩
    clear hze hr hgD hS hk he
    conv => arg 3; whnf
    repeat' first
     | (apply z50 (id := 7) (ord := [0, 1, 2, 3, 4, 5, 6, 7, 8, 9, 10, 11]) <;> first | kernel_rfl | skip)
     | (refine zs ?_; repeat' first | apply zs0 | apply zs2 | (intro hc; try have hq := dq hc)) | fail
    exact ⟨os ++ [q.1], ss ++ [q.2], _, hsn.out.symm, hst.out.symm, by simp only [List.length_append, List.length_singleton]; rfl, by (simp only [seval, push_cast, *] <;> rfl), by (simp only [seval, push_cast, *] <;> rfl), by rw [hsx.out]; (simp only [seval, push_cast, *] <;> rfl), by simp [push_cast], by simp [push_cast], by (simp only [seval, push_cast, *] <;> rfl)⟩
  · rintro ρ H' ⟨os, ss, junk, hos, hss, rfl, h1, h2, h6, h7, h8, h9⟩
    replace hos : Kp (os = trL n l l.length) := ⟨hos⟩
    replace hss : Kp (ss = stL n l l.length) := ⟨hss⟩
    clear hS hk he
    conv => arg 3; whnf
    repeat' first
     | (apply z50 (id := 7) (ord := [0, 1, 2, 3, 4, 5, 6, 7, 8, 9, 10, 11]) <;> first | kernel_rfl | skip)
     | (refine zs ?_; repeat' first | apply zs0 | apply zs2 | (intro hc; try have hq := dq hc)) | fail
    exact ⟨os, ss, junk, hos.out, hss.out, rfl, rfl, by (simp only [seval, push_cast, *] <;> rfl), by (simp only [seval, push_cast, *] <;> rfl)⟩
end

theorem rf_trace (bs : List Nat) (H : Heap) (n : Netl) (l : List (List Int)) (hS : Small n) (hk : NetOk n) (hl : l.length ≤ 1000) (he : (eachP (fun _ x => inErrS n x) 0 l).2 = 0) : callw X bs 28 [encNetl n, .list (l.map encInts)] H = some (.tuple [.list ((trL n l l.length).map encInts), .list ((stL n l l.length).map encInts)], H) := by
  refine call_at (rs := [.tmp 4, .tmp 5]) (N := 43) (fn := Tryz.f28) xk28 xf28 rfl rfl rfl (by simp only [seval, push_cast, List.map_cons, List.map_nil, V.norm, norm1]; rfl) ?_
  have hloop := fun (bs : List Nat) (t1 t2 : HObj) (ρ : Env) => tr_loop n l bs H t1 t2 hS hk hl he 0 ρ
  have t3 := fun bs H => bs_netResets bs H n hS.regs
  simp only [encNetl, cellsNetl] at t3 hloop
  have hs0 : n.regs.map (fun r : Reg => V.int .i64 r.init) = (stAt n l 0).map (.int .i64) := by simp [stAt]
  rw [hs0] at t3
  have hss : stL n l 0 = [stAt n l 0] := rfl
  generalize stAt n l 0 = st at t3 hloop hss
  clear hS hk hl he hs0
  repeat' first
   | (apply z50 (id := 7) (ord := [0, 1, 2, 3, 4, 5, 6, 7, 8, 9, 10, 11]) <;> first | kernel_rfl | skip)
   | (refine zs ?_; repeat' first | apply zs0 | apply zs2 | (intro hc; try have hq := dq hc)) | fail
  refine lp_then (lp_any (c := loopAt Tryz.f28 0) rfl (hloop _ _ _ _ _ (by omega) ⟨[], [st], [], rfl, hss.symm, rfl, by (simp only [seval, push_cast, *] <;> rfl), by (simp only [seval, push_cast, *] <;> rfl), by (simp only [seval, push_cast, *] <;> rfl), by (simp only [seval, push_cast, *] <;> rfl), by simp [push_cast, encInts], by (simp only [seval, push_cast, *] <;> rfl)⟩)) ?_
  rintro ex ρ' H' ⟨os, ss, junk, hos, hss, rfl, rfl, h4, h5⟩ hf
  rw [← hos, ← hss]
  clear hloop hos hss
  repeat' first
   | (apply z50 (id := 7) (ord := [0, 1, 2, 3, 4, 5, 6, 7, 8, 9, 10, 11]) <;> first | kernel_rfl | skip)
   | (refine zs ?_; repeat' first | apply zs0 | apply zs2 | (intro hc; try have hq := dq hc)) | fail
end Go.E
