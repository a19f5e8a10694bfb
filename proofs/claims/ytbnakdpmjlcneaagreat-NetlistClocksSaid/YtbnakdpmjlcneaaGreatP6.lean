/- Errors of values, sequences of clocks, in plain Lean. Own work. -/
import Derived.Test.YtbnakdpmjlcneaaGreatP5
import Derived.Test.YtbnakdpmjlcneaaGreatP4
set_option linter.all false
namespace Go.E
def valErrS (ws l : List Int) : Int := if l.length = ws.length then (eachP (fun i n => if fitsN n (at0 ws i) = true then (0 : Int) else 2) 0 l).2 else 10
def inErrS (n : Netl) (l : List Int) : Int := valErrS (n.inputs.map (·.width)) l
def stErrS (n : Netl) (l : List Int) : Int := valErrS (n.regs.map (·.width)) l
def stepErrS (n : Netl) (ins st : List Int) : Int := if (checkNetS n).2 = 0 then firstL [inErrS n ins, stErrS n st] else (checkNetS n).2
def runErrS (n : Netl) (l : List (List Int)) : Int :=
  if (checkNetS n).2 = 0 then (if l.length ≤ 60 then (eachP (fun _ x => inErrS n x) 0 l).2 else 8) else (checkNetS n).2
def stAt (n : Netl) (l : List (List Int)) : Nat → List Int
  | 0 => n.regs.map (·.init)
  | i + 1 => (stepN n (l.getD i []) (stAt n l i)).2
def trAt (n : Netl) (l : List (List Int)) (i : Nat) : List Int := (stepN n (l.getD i []) (stAt n l i)).1
def trL (n : Netl) (l : List (List Int)) : Nat → List (List Int)
  | 0 => []
  | k + 1 => trL n l k ++ [trAt n l k]
def stL (n : Netl) (l : List (List Int)) : Nat → List (List Int)
  | 0 => [stAt n l 0]
  | k + 1 => stL n l k ++ [stAt n l (k + 1)]
theorem trL_len (n : Netl) (l : List (List Int)) : ∀ k, (trL n l k).length = k
  | 0 => rfl
  | k + 1 => by rw [trL, List.length_append, trL_len n l k]; rfl
theorem stL_len (n : Netl) (l : List (List Int)) : ∀ k, (stL n l k).length = k + 1
  | 0 => rfl
  | k + 1 => by rw [stL, List.length_append, stL_len n l k]; rfl
theorem stL_last (n : Netl) (l : List (List Int)) : ∀ k, (stL n l k)[k]? = some (stAt n l k)
  | 0 => rfl
  | k + 1 => by rw [stL, List.getElem?_append_right (by rw [stL_len]; omega), stL_len]; simp
theorem widths_1 {n : Netl} (hk : NetOk n) (j : Nat) (w : Int) (h : (leavesN n)[j]? = some w) : 1 ≤ w ∧ w ≤ 16 := leaves_of hk.nodes j w h
theorem inW_1 {n : Netl} (hk : NetOk n) (w : Int) (h : w ∈ n.inputs.map (·.width)) : 1 ≤ w ∧ w ≤ 16 := by
  obtain ⟨j, hj⟩ := List.getElem?_of_mem (List.mem_append_left (n.regs.map (·.width)) h)
  exact widths_1 hk j w hj
theorem rgW_1 {n : Netl} (hk : NetOk n) (w : Int) (h : w ∈ n.regs.map (·.width)) : 1 ≤ w ∧ w ≤ 16 := by
  obtain ⟨j, hj⟩ := List.getElem?_of_mem (List.mem_append_right (n.inputs.map (·.width)) h)
  exact widths_1 hk j w hj
theorem fitsN_iff {n w : Int} (h1 : 1 ≤ w) (h16 : w ≤ 16) : fitsN n w = true ↔ InW n w := by
  unfold fitsN
  rw [shl1_pow (by omega)]
  have h3 := pow_le (k := w.toNat) (by omega)
  have h4 := pow_pos' w.toNat
  rw [wrap64 (by omega) (by omega)]
  rw [Bool.and_eq_true, decide_eq_true_eq, decide_eq_true_eq]
  unfold InW
  omega
theorem valErr_ok {ws l : List Int} (hw : ∀ w ∈ ws, 1 ≤ w ∧ w ≤ 16) (h : valErrS ws l = 0) : l.length = ws.length ∧ ∀ (j : Nat) w v, ws[j]? = some w → l[j]? = some v → InW v w := by
  unfold valErrS at h
  split at h
  case isFalse => omega
  rename_i hlen
  refine ⟨hlen, fun j w v h1 h2 => ?_⟩
  have := eachP_ok _ l 0 h j v h2
  simp only [Nat.zero_add, at0_get h1] at this
  have h3 := hw w (List.mem_of_getElem? h1)
  split at this
  · rename_i hf; exact (fitsN_iff h3.1 h3.2).1 hf
  · omega
def RegOk (n : Netl) (st : List Int) : Prop := st.length = n.regs.length ∧ ∀ (j : Nat) r v, n.regs[j]? = some r → st[j]? = some v → InW v r.width
theorem regOk_of {n : Netl} (hk : NetOk n) {st : List Int} (h : stErrS n st = 0) : RegOk n st := by
  obtain ⟨h1, h2⟩ := valErr_ok (rgW_1 hk) h
  exact ⟨by simpa using h1, fun j r v hr hv => h2 j r.width v (by simp [hr]) hv⟩
theorem leafOk_of {n : Netl} (hk : NetOk n) {ins st : List Int} (h : inErrS n ins = 0) (hr : RegOk n st) : LeafOk (leavesN n) (ins ++ st) := by
  obtain ⟨h1, h2⟩ := valErr_ok (inW_1 hk) h
  rw [List.length_map] at h1
  refine ⟨by simp [leavesN, h1, hr.1], fun j w v hw hv => ?_⟩
  unfold leavesN at hw
  by_cases hj : j < n.inputs.length
  · rw [List.getElem?_append_left (by simpa using hj)] at hw
    rw [List.getElem?_append_left (by omega)] at hv
    exact h2 j w v hw hv
  · rw [List.getElem?_append_right (by simpa using hj)] at hw
    rw [List.getElem?_append_right (by omega)] at hv
    simp only [List.length_map, List.getElem?_map] at hw
    rw [h1] at hv
    cases hq : n.regs[j - n.inputs.length]? with
    | none => rw [hq] at hw; simp at hw
    | some r =>
      rw [hq] at hw
      simp at hw
      subst hw
      exact hr.2 _ r v hq hv
theorem regOk_reset {n : Netl} (hk : NetOk n) : RegOk n (n.regs.map (·.init)) := by
  refine ⟨by simp, fun j r v hr hv => ?_⟩
  simp [hr] at hv
  subst hv
  have hm := List.mem_of_getElem? hr
  have h3 := rgW_1 hk r.width (List.mem_map_of_mem hm)
  exact (fitsN_iff h3.1 h3.2).1 (hk.init r hm)
theorem nextL_at (regs : List Reg) (vals state : List Int) (k : Nat) : ∀ (j : Nat) r, j < k → regs[j]? = some r → (nextL regs vals state k)[j]? = some (nextV vals state j r) := by
  induction k with
  | zero => intro j r hj; omega
  | succ k ih =>
    intro j r hj hr
    rw [nextL]
    by_cases hjk : j < k
    · rw [List.getElem?_append_left (by rw [nextL_len]; exact hjk)]; exact ih j r hjk hr
    · obtain rfl : j = k := by omega
      rw [List.getElem?_append_right (by rw [nextL_len]; omega), nextL_len, hr]; simp
theorem regOk_next {n : Netl} (hk : NetOk n) {ins st : List Int} (h : inErrS n ins = 0) (hr : RegOk n st) : RegOk n (stepN n ins st).2 := by
  have hl := leafOk_of hk h hr
  refine ⟨nextL_len _ _ _ _, fun j r v hj hv => ?_⟩
  have hjl : j < n.regs.length := (List.getElem?_eq_some_iff.1 hj).1
  have e := nextL_at n.regs (valsN n ins st) st n.regs.length j r hjl hj
  simp only [stepN] at hv
  rw [e] at hv
  cases hv
  have hm := List.mem_of_getElem? hj
  unfold nextV
  split
  · obtain ⟨_, a, b⟩ := hk.regs r hm
    have h2 : r.next.toNat < n.nodes.length := by omega
    have h3 := vals_ok (goodAll_of hk.nodes) hl n.nodes.length (Nat.le_refl _) r.next.toNat n.nodes[r.next.toNat] h2 (by simp [h2])
    have h4 := hk.next r hm
    unfold widthAt at h4
    rw [List.getElem?_eq_getElem h2] at h4
    simp only at h4
    rw [h4] at h3
    exact h3
  · have hs : j < st.length := by rw [hr.1]; exact hjl
    rw [at0_get (l := st) (i := j) (v := st[j]) (by simp [hs])]
    exact hr.2 j r _ hj (by simp [hs])
theorem run_ok {n : Netl} (hk : NetOk n) {l : List (List Int)} (h : (eachP (fun _ x => inErrS n x) 0 l).2 = 0) : ∀ i, i ≤ l.length → RegOk n (stAt n l i) := by
  intro i
  induction i with
  | zero => intro _; exact regOk_reset hk
  | succ i ih =>
    intro hi
    have hx : l[i]? = some l[i] := by simp [show i < l.length by omega]
    have e : l.getD i [] = l[i] := by simp [List.getD, hx]
    have := eachP_ok _ l 0 h i _ hx
    rw [stAt, e]
    exact regOk_next hk this (ih (by omega))
end Go.E
/- Contracts of the package netlist, in E: errors of values, a clock with its errors. Own work. -/
namespace Go.E
open Go.Proofs
set_option maxRecDepth 100000
set_option maxHeartbeats 4000000

theorem z43 {cx : Cx} {n0 : Nat} {H' : Heap} {ρ : Env} {H1 : Heap} {r1 r2 r3 : ResultVar} {u1 u2 u3 v1 v2 v3 : V} (h1 : resV cx.P ρ H1 r1 = some u1) (h2 : resV cx.P ρ H1 r2 = some u2) (h3 : resV cx.P ρ H1 r3 = some u3)
    (k1 : frz 6 n0 H1 u1 = some v1) (k2 : frz 6 n0 H1 u2 = some v2) (k3 : frz 6 n0 H1 u3 = some v3) (hh : H1.take n0 = H') : Leaf cx [r1, r2, r3] n0 (.tuple [v1, v2, v3]) H' .ret ρ H1 :=
  by unfold Leaf; exact ⟨trivial, [u1, u2, u3], [v1, v2, v3], by simp [h1, h2, h3], by simp [k1, k2, k3], rfl, hh⟩
theorem slice_hi (l : List Int) (k : Nat) (hk : k ≤ l.length) : sliceV Tryz.prog 34 (.list (l.map (.int .i64))) none (some (.int .i64 (k : Int))) none = some (.list ((l.take k).map (.int .i64))) := by
  simp [sliceV, Tryz.underlying34, sz3, boundV, idxV, hk, List.map_take]
  exact fun x _ => rfl
theorem slice_lo (l : List Int) (k : Nat) (hk : k ≤ l.length) : sliceV Tryz.prog 34 (.list (l.map (.int .i64))) (some (.int .i64 (k : Int))) none none = some (.list ((l.drop k).map (.int .i64))) := by
  simp [sliceV, Tryz.underlying34, sz3, boundV, idxV, hk, List.map_drop]
  exact ⟨fun x _ => rfl, by rw [List.take_of_length_le (by simp)]⟩

theorem nl_ve1 (bs : List Nat) (H : Heap) (ws : List Int) (i : Nat) (n w : Int) (a : Nat) (hi : ws[i]? = some w) (hw : 0 ≤ w) (hA : H[a]? = some (.cells [.list (ws.map (.int .i64))])) : callw X bs 201 [.int .i64 i, .int .i64 n, .ptr a 0] H = some (.int .i64 (if fitsN n w = true then 0 else 2), H) := by
  refine call_at (rs := [.tmp 5]) (N := 13) (fn := Tryz.f201) xk201 xf201 rfl rfl rfl (by simp only [seval, push_cast, List.map_cons, List.map_nil, V.norm, norm1]; rfl) ?_
  have t := fun bs H => nl_fits bs H n w hw
  clear hw
  all_goals try (refine zs ?_; repeat' first | apply zs0 | apply zs2 | (intro hc; try have hq := dq hc))

theorem nl_valuesErr (bs : List Nat) (H : Heap) (ws l : List Int) (hws : ws.length ≤ 1000000) (hl : l.length ≤ 1000000) (hw : ∀ w ∈ ws, 0 ≤ w) : callw X bs 147 [.list (ws.map (.int .i64)), .list (l.map (.int .i64))] H = some (.int .i64 (valErrS ws l), H) := by
  refine call_at (rs := [.tmp 4]) (N := 19) (fn := Tryz.f147) xk147 xf147 rfl rfl rfl (by simp only [seval, push_cast, List.map_cons, List.map_nil, V.norm, norm1]; rfl) ?_
  unfold valErrS
  by_cases h : l.length = ws.length
  · have d : (decide ¬ (l.length : Int) = (ws.length : Int)) = false := decide_eq_false (by omega)
    have t2 := fun (bs : List Nat) rest => netlist_each_Int_p bs (H ++ .cells [.list (ws.map (.int .i64))] :: rest) 201 [.ptr H.length 0] (fun i n => if fitsN n (at0 ws i) = true then (0 : Int) else 2) l (by omega)
      (fun bs i x junk hx => by
        have hi : i < ws.length := by rw [← h]; exact (List.getElem?_eq_some_iff.1 hx).1
        have hg : ws[i]? = some ws[i] := by simp [hi]
        have := nl_ve1 bs ((H ++ .cells [.list (ws.map (.int .i64))] :: rest) ++ junk) ws i x ws[i] H.length hg (hw _ (List.getElem_mem hi)) (by simp)
        simp only [at0_get hg]
        exact this)
    simp only [show encInt = V.int .i64 from rfl] at t2
    rw [if_pos h]
    generalize eachP (fun i n => if fitsN n (at0 ws i) = true then (0 : Int) else 2) 0 l = r at t2 ⊢
    clear hw h
    all_goals try (refine zs ?_; repeat' first | apply zs0 | apply zs2 | (intro hc; try have hq := dq hc))
  · have d : (decide ¬ (l.length : Int) = (ws.length : Int)) = true := decide_eq_true (by omega)
    rw [if_neg h]
    clear hw h
    all_goals try (refine zs ?_; repeat' first | apply zs0 | apply zs2 | (intro hc; try have hq := dq hc))

theorem in_take (n : Netl) : (leavesN n).take n.inputs.length = n.inputs.map (·.width) := by
  unfold leavesN; rw [List.take_left' (by simp)]
theorem in_drop (n : Netl) : (leavesN n).drop n.inputs.length = n.regs.map (·.width) := by
  unfold leavesN; rw [List.drop_left' (by simp)]
theorem nl_inputsErr (bs : List Nat) (H : Heap) (n : Netl) (l : List Int) (hi : n.inputs.length ≤ 1000) (hr : n.regs.length ≤ 1000) (hl : l.length ≤ 1000000) (hw : ∀ w ∈ n.inputs.map (·.width), 0 ≤ w) : callw X bs 91 [encNetl n, .list (l.map (.int .i64))] H = some (.int .i64 (inErrS n l), H) := by
  refine call_at (rs := [.tmp 4]) (N := 15) (fn := Tryz.f91) xk91 xf91 rfl rfl rfl (by simp only [seval, push_cast, List.map_cons, List.map_nil, V.norm, norm1]; rfl) ?_
  have t1 := fun bs H => nl_leaves bs H n hi hr
  have t2 := slice_hi (leavesN n) n.inputs.length (by simp [leavesN])
  rw [in_take] at t2
  have t3 := fun bs H => nl_valuesErr bs H (n.inputs.map (·.width)) l (by simp; omega) hl hw
  simp only [encNetl, cellsNetl] at t1
  unfold inErrS
  generalize n.inputs.map (fun p : Port => p.width) = ws at t2 t3 ⊢
  generalize leavesN n = lvs at t1 t2
  clear hw
  repeat' first
   | (apply z51 (id := 1) (ord := [0, 1, 3, 4, 5, 6, 8, 2, 7, 9, 10]) (ps := [(4, 7)]) <;> first | kernel_rfl | skip)
   | (refine zs ?_; repeat' first | apply zs0 | apply zs2 | (intro hc; try have hq := dq hc)) | fail

theorem nl_stateErr (bs : List Nat) (H : Heap) (n : Netl) (l : List Int) (hi : n.inputs.length ≤ 1000) (hr : n.regs.length ≤ 1000) (hl : l.length ≤ 1000000) (hw : ∀ w ∈ n.regs.map (·.width), 0 ≤ w) : callw X bs 92 [encNetl n, .list (l.map (.int .i64))] H = some (.int .i64 (stErrS n l), H) := by
  refine call_at (rs := [.tmp 4]) (N := 15) (fn := Tryz.f92) xk92 xf92 rfl rfl rfl (by simp only [seval, push_cast, List.map_cons, List.map_nil, V.norm, norm1]; rfl) ?_
  have t1 := fun bs H => nl_leaves bs H n hi hr
  have t2 := slice_lo (leavesN n) n.inputs.length (by simp [leavesN])
  rw [in_drop] at t2
  have t3 := fun bs H => nl_valuesErr bs H (n.regs.map (·.width)) l (by simp; omega) hl hw
  simp only [encNetl, cellsNetl] at t1
  unfold stErrS
  generalize n.regs.map (fun p : Reg => p.width) = ws at t2 t3 ⊢
  generalize leavesN n = lvs at t1 t2
  clear hw
  repeat' first
   | (apply z51 (id := 1) (ord := [0, 1, 3, 4, 5, 6, 8, 2, 7, 9, 10]) (ps := [(4, 7)]) <;> first | kernel_rfl | skip)
   | (refine zs ?_; repeat' first | apply zs0 | apply zs2 | (intro hc; try have hq := dq hc)) | fail

theorem nl_stepOf (bs : List Nat) (H : Heap) (n : Netl) (ins st : List Int) (hS : Small n) (hi : ins.length ≤ 100000) (hs : st.length ≤ 100000) : callw X bs 19 [encNetl n, .list (ins.map (.int .i64)), .list (st.map (.int .i64))] H = some (.tuple [.list (if stepErrS n ins st = 0 then (stepN n ins st).1.map (.int .i64) else []), .list (if stepErrS n ins st = 0 then (stepN n ins st).2.map (.int .i64) else []), .int .i64 (stepErrS n ins st)], H) := by
  refine call_at (rs := [.tmp 6, .tmp 7, .tmp 8]) (N := 40) (fn := Tryz.f19) xk19 xf19 rfl rfl rfl (by simp only [seval, push_cast, List.map_cons, List.map_nil, V.norm, norm1]; rfl) ?_
  have h1 := fun bs H => nl_open bs H n hS
  simp only [encNetl, cellsNetl] at h1
  by_cases hc : (checkNetS n).2 = 0
  · have hk := net_ok hc
    have t1 := fun bs H => nl_inputsErr bs H n ins hS.inputs hS.regs (by omega) (fun w hw => by have := inW_1 hk w hw; omega)
    have t2 := fun bs H => nl_stateErr bs H n st hS.inputs hS.regs (by omega) (fun w hw => by have := rgW_1 hk w hw; omega)
    simp only [encNetl, cellsNetl] at t1 t2
    have he : stepErrS n ins st = firstL [inErrS n ins, stErrS n st] := if_pos hc
    by_cases h0 : firstL [inErrS n ins, stErrS n st] = 0
    · have z1 : inErrS n ins = 0 := by
        rw [firstL_2] at h0; split at h0
        · rename_i a; exact absurd h0 a
        · rename_i a; simpa using a
      have z2 : stErrS n st = 0 := by rw [firstL_2, z1] at h0; simpa using h0
      have hr := regOk_of hk z2
      have t3 := fun bs H => nl_clock bs H n ins st hS hk (leafOk_of hk z1 hr) hr.1
      simp only [encNetl, cellsNetl] at t3
      rw [he, h0]
      simp only [z1, z2, hc, if_true] at t1 t2 h1 ⊢
      clear hk hr hS h0 he z1 z2
      repeat' first
       | (apply z51 (id := 3) (ord := [0, 1, 3, 4, 2, 5, 6, 7, 8]) (ps := [(2, 4)]) <;> first | kernel_rfl | skip)
       | (refine zs ?_; repeat' first | apply zs0 | apply zs2 | (intro hc; try have hq := dq hc)) | fail
      all_goals (apply z43; (simp only [seval, push_cast, *]; with_reducible rfl); (simp only [seval, push_cast, *]; with_reducible rfl); (simp only [seval, push_cast, *]; with_reducible rfl); all_goals (first | (simp only [seval, push_cast, *] <;> fail) | (simp only [seval, push_cast] <;> fail) | (rw [frz_pure rfl] <;> (simp [*] <;> fail))))
    · rw [he]
      simp only [if_neg h0, hc] at h1 ⊢
      rw [firstL_2] at h0 ⊢
      generalize inErrS n ins = a at t1 h0 ⊢
      generalize stErrS n st = b at t2 h0 ⊢
      clear hk hS he
      by_cases ha : a = 0
      · subst ha
        have hb : ¬ b = 0 := by simpa using h0
        simp only [ne_eq, not_true_eq_false, if_false] at h0 ⊢
        repeat' first
         | (apply z51 (id := 3) (ord := [0, 1, 3, 4, 2, 5, 6, 7, 8]) (ps := [(2, 4)]) <;> first | kernel_rfl | skip)
         | (refine zs ?_; repeat' first | apply zs0 | apply zs2 | (intro hc; try have hq := dq hc)) | fail
        all_goals (apply z43; (simp only [seval, push_cast, *]; with_reducible rfl); (simp only [seval, push_cast, *]; with_reducible rfl); (simp only [seval, push_cast, *]; with_reducible rfl); all_goals (first | (simp only [seval, push_cast, *] <;> fail) | (simp only [seval, push_cast] <;> fail) | (rw [frz_pure rfl] <;> (simp [*] <;> fail))))
      · simp only [ne_eq, ha, not_false_eq_true, if_true] at h0 ⊢
        repeat' first
         | (apply z51 (id := 3) (ord := [0, 1, 3, 4, 2, 5, 6, 7, 8]) (ps := [(2, 4)]) <;> first | kernel_rfl | skip)
         | (refine zs ?_; repeat' first | apply zs0 | apply zs2 | (intro hc; try have hq := dq hc)) | fail
        all_goals (apply z43; (simp only [seval, push_cast, *]; with_reducible rfl); (simp only [seval, push_cast, *]; with_reducible rfl); (simp only [seval, push_cast, *]; with_reducible rfl); all_goals (first | (simp only [seval, push_cast, *] <;> fail) | (simp only [seval, push_cast] <;> fail) | (rw [frz_pure rfl] <;> (simp [*] <;> fail))))
  · have he : stepErrS n ins st = (checkNetS n).2 := if_neg hc
    rw [he]
    simp only [if_neg hc]
    clear hS he
    repeat' first
     | (apply z51 (id := 3) (ord := [0, 1, 3, 4, 2, 5, 6, 7, 8]) (ps := [(2, 4)]) <;> first | kernel_rfl | skip)
     | (refine zs ?_; repeat' first | apply zs0 | apply zs2 | (intro hc; try have hq := dq hc)) | fail
    all_goals (apply z43; (simp only [seval, push_cast, *]; with_reducible rfl); (simp only [seval, push_cast, *]; with_reducible rfl); (simp only [seval, push_cast, *]; with_reducible rfl); all_goals (first | (simp only [seval, push_cast, *] <;> fail) | (simp only [seval, push_cast] <;> fail) | (rw [frz_pure rfl] <;> (simp [*] <;> fail))))
end Go.E
/- Contracts of the package netlist, in E: sequences of clocks. Own work. -/
namespace Go.E
open Go.Proofs
set_option maxRecDepth 100000
set_option maxHeartbeats 4000000

theorem room24 (n : Nat) (h : n ≤ 1000000) : (n + 1) * 24 ≤ roomB := by unfold roomB; omega
theorem nl_run1 (bs : List Nat) (H : Heap) (n : Netl) (i : Int) (l : List Int) (a : Nat) (hS : Small n) (hk : NetOk n) (hl : l.length ≤ 100000) (hA : H[a]? = some (.cells (cellsNetl n))) : callw X bs 151 [.int .i64 i, .list (l.map (.int .i64)), .ptr a 0] H = some (.int .i64 (inErrS n l), H) := by
  refine call_at (rs := [.tmp 5]) (N := 9) (fn := Tryz.f151) xk151 xf151 rfl rfl rfl (by simp only [seval, push_cast, List.map_cons, List.map_nil, V.norm, norm1]; rfl) ?_
  have t1 := fun bs H => nl_inputsErr bs H n l hS.inputs hS.regs (by omega) (fun w hw => by have := inW_1 hk w hw; omega)
  simp only [encNetl, cellsNetl] at t1 hA
  clear hS hk
  all_goals try (refine zs ?_; repeat' first | apply zs0 | apply zs2 | (intro hc; try have hq := dq hc))

section
variable (n : Netl) (l : List (List Int))
theorem rn_loop (bs : List Nat) (H : Heap) (c t2 : HObj) (hS : Small n) (hk : NetOk n) (hl : l.length ≤ 1000) (he : (eachP (fun _ x => inErrS n x) 0 l).2 = 0) :
    ∀ i ρ H', i ≤ l.length → (∃ os ss junk, os = trL n l i ∧ ss = stL n l i ∧ H' = H ++ c :: .tok os.length :: t2 :: .cells (cellsNetl n) :: .tok ss.length :: junk ∧ ρ 7 = .ptr (H.length + 3) 0 ∧ ρ 4 = .tl (H.length + 1) (os.map encInts) ∧ ρ 5 = .tl (H.length + 4) (ss.map encInts) ∧
        ρ 41 = .list (l.map encInts) ∧ ρ 42 = .int .i64 l.length ∧ ρ 43 = .int .i64 i) →
      Lp X ⟨69, bs⟩ (loopAt Tryz.f94 0) ρ H' fun ex ρ' H' => ∃ os ss junk, os = trL n l l.length ∧ ss = stL n l l.length ∧ H' = H ++ c :: .tok os.length :: t2 :: .cells (cellsNetl n) :: .tok ss.length :: junk ∧ ex = .exit 0 ∧
        ρ' 4 = .tl (H.length + 1) (os.map encInts) ∧ ρ' 5 = .tl (H.length + 4) (ss.map encInts) := by
  refine loop_up ?_ ?_
  · rintro i ρ H' hi ⟨os, ss, junk, hos, hss, rfl, h7, h4, h5, h41, h42, h43⟩
    have hget : l[i]? = some l[i] := by simp [hi]
    have hze := eachP_ok _ l 0 he i l[i] hget
    have hr := run_ok hk he i (by omega)
    have hgD : l.getD i [] = l[i] := by simp [List.getD, hget]
    have hsa : ss[i]? = some (stAt n l i) := by rw [hss]; exact stL_last n l i
    have hsn : trL n l (i + 1) = os ++ [(stepN n l[i] (stAt n l i)).1] := by rw [trL, ← hos, trAt, hgD]
    have hst : stL n l (i + 1) = ss ++ [(stepN n l[i] (stAt n l i)).2] := by rw [stL, ← hss, stAt, hgD]
    have t3 := fun bs H => nl_clock bs H n l[i] (stAt n l i) hS hk (leafOk_of hk hze hr) hr.1
    simp only [encNetl, cellsNetl] at t3
    generalize l[i] = x at hget hsn hst t3
    generalize stAt n l i = st at hsa hsn hst t3
    have hlen : os.length = i := by rw [hos]; exact trL_len n l i
    have hlens : ss.length = i + 1 := by rw [hss]; exact stL_len n l i
    have hroom := room24 os.length (by omega)
    have hroom2 := room24 ss.length (by omega)
    have hw := add1 i l.length hi (by omega)
    generalize stepN n x st = q at hsn hst t3
    replace hos : Kp (os = trL n l i) := ⟨hos⟩
    replace hss : Kp (ss = stL n l i) := ⟨hss⟩
    replace hsn : Kp (trL n l (i + 1) = os ++ [q.1]) := ⟨hsn⟩
    replace hst : Kp (stL n l (i + 1) = ss ++ [q.2]) := ⟨hst⟩
    replace hlen : Kp (os.length = i) := ⟨hlen⟩
    replace hlens : Kp (ss.length = i + 1) := ⟨hlens⟩
    clear hze hr hgD hS hk he
    conv => arg 3; whnf
    repeat' first
     | (apply z50 (id := 12) (ord := [0, 1, 2, 3, 4, 5, 6, 7, 8, 9, 10, 11]) <;> first | kernel_rfl | skip)
     | (refine zs ?_; repeat' first | apply zs0 | apply zs2 | (intro hc; try have hq := dq hc)) | fail
    exact ⟨os ++ [q.1], ss ++ [q.2], _, hsn.out.symm, hst.out.symm, by simp only [List.length_append, List.length_singleton]; rfl, by (simp only [seval, push_cast, *] <;> rfl), by simp [push_cast], by simp [push_cast], by (simp only [seval, push_cast, *] <;> rfl), by (simp only [seval, push_cast, *] <;> rfl), by (simp only [seval, push_cast, *] <;> rfl)⟩
  · rintro ρ H' ⟨os, ss, junk, hos, hss, rfl, h7, h4, h5, h41, h42, h43⟩
    replace hos : Kp (os = trL n l l.length) := ⟨hos⟩
    replace hss : Kp (ss = stL n l l.length) := ⟨hss⟩
    clear hS hk he
    conv => arg 3; whnf
    repeat' first
     | (apply z50 (id := 12) (ord := [0, 1, 2, 3, 4, 5, 6, 7, 8, 9, 10, 11]) <;> first | kernel_rfl | skip)
     | (refine zs ?_; repeat' first | apply zs0 | apply zs2 | (intro hc; try have hq := dq hc)) | fail
    exact ⟨os, ss, junk, hos.out, hss.out, rfl, rfl, by (simp only [seval, push_cast, *] <;> rfl), by (simp only [seval, push_cast, *] <;> rfl)⟩
end

theorem nl_run (bs : List Nat) (H : Heap) (n : Netl) (l : List (List Int)) (hS : Small n) (hl : l.length ≤ 1000) (hll : ∀ x ∈ l, x.length ≤ 100000) : callw X bs 94 [encNetl n, .list (l.map encInts)] H = some (.tuple [.list (if runErrS n l = 0 then (trL n l l.length).map encInts else []), .list (if runErrS n l = 0 then (stL n l l.length).map encInts else []), .int .i64 (runErrS n l)], H) := by
  refine call_at (rs := [.tmp 4, .tmp 5, .tmp 6]) (N := 69) (fn := Tryz.f94) xk94 xf94 rfl rfl rfl (by simp only [seval, push_cast, List.map_cons, List.map_nil, V.norm, norm1]; rfl) ?_
  have h1 := fun bs H => nl_open bs H n hS
  simp only [encNetl, cellsNetl] at h1
  by_cases hc : (checkNetS n).2 = 0
  case neg =>
    have he : runErrS n l = (checkNetS n).2 := if_neg hc
    rw [he]
    simp only [if_neg hc]
    clear hS he hll
    by_cases h60 : l.length ≤ 60
    · have d : decide ((l.length : Int) ≤ 60) = true := decide_eq_true (by omega)
      clear h60
      repeat' first
       | (apply z50 (id := 12) (ord := [0, 1, 2, 3, 4, 5, 6, 7, 8, 9, 10, 11]) <;> first | kernel_rfl | skip)
       | (refine zs ?_; repeat' first | apply zs0 | apply zs2 | (intro hc; try have hq := dq hc)) | fail
      all_goals (apply z43; (simp only [seval, push_cast, *]; with_reducible rfl); (simp only [seval, push_cast, *]; with_reducible rfl); (simp only [seval, push_cast, *]; with_reducible rfl); all_goals (first | (simp only [seval, push_cast, *] <;> fail) | (simp only [seval, push_cast] <;> fail) | (rw [frz_pure rfl] <;> (simp [*] <;> fail))))
    · have d : decide ((l.length : Int) ≤ 60) = false := decide_eq_false (by omega)
      clear h60
      repeat' first
       | (apply z50 (id := 12) (ord := [0, 1, 2, 3, 4, 5, 6, 7, 8, 9, 10, 11]) <;> first | kernel_rfl | skip)
       | (refine zs ?_; repeat' first | apply zs0 | apply zs2 | (intro hc; try have hq := dq hc)) | fail
      all_goals (apply z43; (simp only [seval, push_cast, *]; with_reducible rfl); (simp only [seval, push_cast, *]; with_reducible rfl); (simp only [seval, push_cast, *]; with_reducible rfl); all_goals (first | (simp only [seval, push_cast, *] <;> fail) | (simp only [seval, push_cast] <;> fail) | (rw [frz_pure rfl] <;> (simp [*] <;> fail))))
  have hk := net_ok hc
  by_cases h60 : l.length ≤ 60
  case neg =>
    have he : runErrS n l = 8 := by unfold runErrS; rw [if_pos hc, if_neg h60]
    rw [he]
    have d : decide ((l.length : Int) ≤ 60) = false := decide_eq_false (by omega)
    simp only [hc] at h1
    simp only [show ((8 : Int) = 0) = False by simp, if_false]
    clear hS he hll hk h60
    repeat' first
     | (apply z50 (id := 12) (ord := [0, 1, 2, 3, 4, 5, 6, 7, 8, 9, 10, 11]) <;> first | kernel_rfl | skip)
     | (refine zs ?_; repeat' first | apply zs0 | apply zs2 | (intro hc; try have hq := dq hc)) | fail
    all_goals (apply z43; (simp only [seval, push_cast, *]; with_reducible rfl); (simp only [seval, push_cast, *]; with_reducible rfl); (simp only [seval, push_cast, *]; with_reducible rfl); all_goals (first | (simp only [seval, push_cast, *] <;> fail) | (simp only [seval, push_cast] <;> fail) | (rw [frz_pure rfl] <;> (simp [*] <;> fail))))
  have d : decide ((l.length : Int) ≤ 60) = true := decide_eq_true (by omega)
  have he : runErrS n l = (eachP (fun _ x => inErrS n x) 0 l).2 := by unfold runErrS; rw [if_pos hc, if_pos h60]
  have t2 := fun bs (a b c : HObj) rest => netlist_each_Ints_p bs (H ++ a :: b :: c :: .cells (cellsNetl n) :: rest) 151 [.ptr (H.length + 3) 0] (fun _ x => inErrS n x) l (by omega)
    (fun bs i x junk hx => nl_run1 bs ((H ++ a :: b :: c :: .cells (cellsNetl n) :: rest) ++ junk) n i x (H.length + 3) hS hk (hll x (List.mem_of_getElem? hx)) (by simp))
  have t3 := fun bs H => nl_reset bs H n hS.regs
  simp only [encNetl, cellsNetl] at t2 t3
  simp only [hc] at h1
  rw [he]
  by_cases hz : (eachP (fun _ x => inErrS n x) 0 l).2 = 0
  case neg =>
    simp only [if_neg hz]
    generalize eachP (fun _ x => inErrS n x) 0 l = r at t2 hz ⊢
    clear hS he hll hk h60
    repeat' first
     | (apply z50 (id := 12) (ord := [0, 1, 2, 3, 4, 5, 6, 7, 8, 9, 10, 11]) <;> first | kernel_rfl | skip)
     | (refine zs ?_; repeat' first | apply zs0 | apply zs2 | (intro hc; try have hq := dq hc)) | fail
    all_goals (apply z43; (simp only [seval, push_cast, *]; with_reducible rfl); (simp only [seval, push_cast, *]; with_reducible rfl); (simp only [seval, push_cast, *]; with_reducible rfl); all_goals (first | (simp only [seval, push_cast, *] <;> fail) | (simp only [seval, push_cast] <;> fail) | (rw [frz_pure rfl] <;> (simp [*] <;> fail))))
  have hloop := fun (bs : List Nat) (c t2 : HObj) (ρ : Env) => rn_loop n l bs H c t2 hS hk (by omega) hz 0 ρ
  simp only [cellsNetl] at hloop
  simp only [if_pos hz, hz] at t2 ⊢
  generalize (eachP (fun _ x => inErrS n x) 0 l).1 = r1 at t2
  clear hS he hll hk h60 hz
  repeat' first
   | (apply z50 (id := 12) (ord := [0, 1, 2, 3, 4, 5, 6, 7, 8, 9, 10, 11]) <;> first | kernel_rfl | skip)
   | (refine zs ?_; repeat' first | apply zs0 | apply zs2 | (intro hc; try have hq := dq hc)) | fail
  refine lp_then (lp_any (c := loopAt Tryz.f94 0) rfl (hloop _ _ _ _ _ (by omega) ⟨[], [resetN n], [], rfl, rfl, rfl, by (simp only [seval, push_cast, *] <;> rfl), by (simp only [seval, push_cast, *] <;> rfl), by (simp only [seval, push_cast, *] <;> rfl), by (simp only [seval, push_cast, *] <;> rfl), by (simp only [seval, push_cast, *] <;> rfl), by (simp only [seval, push_cast, *] <;> rfl)⟩)) ?_
  rintro ex ρ' H' ⟨os, ss, junk, hos, hss, rfl, rfl, h4, h5⟩ hf
  rw [← hos, ← hss]
  clear hloop hos hss
  repeat' first
   | (apply z50 (id := 12) (ord := [0, 1, 2, 3, 4, 5, 6, 7, 8, 9, 10, 11]) <;> first | kernel_rfl | skip)
   | (refine zs ?_; repeat' first | apply zs0 | apply zs2 | (intro hc; try have hq := dq hc)) | fail
  all_goals (apply z43; (simp only [seval, push_cast, *]; with_reducible rfl); (simp only [seval, push_cast, *]; with_reducible rfl); (simp only [seval, push_cast, *]; with_reducible rfl); all_goals (first | (simp only [seval, push_cast, *] <;> fail) | (simp only [seval, push_cast] <;> fail) | (rw [frz_pure rfl] <;> (simp [*] <;> fail))))
end Go.E
/- Contracts of the references' base, in E: numbers, names, nodes. Own work. -/
namespace Go.E
open Go.Proofs
set_option maxRecDepth 100000
set_option maxHeartbeats 4000000

theorem or19 {k : Nat} (h : k < 19) : k = 0 ∨ k = 1 ∨ k = 2 ∨ k = 3 ∨ k = 4 ∨ k = 5 ∨ k = 6 ∨ k = 7 ∨ k = 8 ∨ k = 9 ∨ k = 10 ∨ k = 11 ∨ k = 12 ∨ k = 13 ∨ k = 14 ∨ k = 15 ∨ k = 16 ∨ k = 17 ∨ k = 18 := by omega
theorem argC0 : argC 0 = 0 := rfl
theorem argC1 : argC 1 = 0 := rfl
theorem argC2 : argC 2 = 1 := rfl
theorem argC3 : argC 3 = 2 := rfl
theorem argC4 : argC 4 = 2 := rfl
theorem argC5 : argC 5 = 2 := rfl
theorem argC6 : argC 6 = 2 := rfl
theorem argC7 : argC 7 = 2 := rfl
theorem argC8 : argC 8 = 2 := rfl
theorem argC9 : argC 9 = 2 := rfl
theorem argC10 : argC 10 = 2 := rfl
theorem argC11 : argC 11 = 2 := rfl
theorem argC12 : argC 12 = 3 := rfl
theorem argC13 : argC 13 = 2 := rfl
theorem argC14 : argC 14 = 1 := rfl
theorem argC15 : argC 15 = 1 := rfl
theorem argC16 : argC 16 = 1 := rfl
theorem argC17 : argC 17 = 2 := rfl
theorem argC18 : argC 18 = 2 := rfl
attribute [push_cast] argC0 argC1 argC2 argC3 argC4 argC5 argC6 argC7 argC8 argC9 argC10 argC11 argC12 argC13 argC14 argC15 argC16 argC17 argC18
theorem bs_argCount0 (bs : List Nat) (H : Heap) (k : Nat) (n : Int) (h : k < 19) (hn : n = (k : Int)) : callw X bs 198 [.int .i64 n] H = some (.int .i64 (argC k : Nat), H) := by
  refine call_at (rs := [.tmp 2]) (N := 14) (fn := Tryz.f198) xk198 xf198 rfl rfl rfl (by simp only [seval, push_cast, List.map_cons, List.map_nil, V.norm, norm1]; rfl) ?_
  rcases or19 h with rfl | rfl | rfl | rfl | rfl | rfl | rfl | rfl | rfl | rfl | rfl | rfl | rfl | rfl | rfl | rfl | rfl | rfl | rfl
  all_goals clear h
  all_goals try (refine zs ?_; repeat' first | apply zs0 | apply zs2 | (intro hc; try have hq := dq hc))

end Go.E
/- Contracts of the references' base, in E: nodes. Own work. -/
namespace Go.E
open Go.Proofs
set_option maxRecDepth 100000
set_option maxHeartbeats 4000000

theorem bs_widths (bs : List Nat) (H : Heap) (x : Node) (nodes : List Node) (hl : x.args.length ≤ 1000000) (hargs : ∀ n ∈ x.args, 0 ≤ n ∧ n < nodes.length) :
    ∀ i ρ H', i ≤ x.args.length → (∃ ws, ws = widthsOf nodes (x.args.take i) ∧ H' = H ++ [.cells [.int .i64 x.op, .int .i64 x.width, .list (x.args.map (.int .i64)), .int .i64 x.value], .tok ws.length] ∧ ρ 0 = .list (nodes.map encNode) ∧ ρ 3 = .ptr H.length 0 ∧ ρ 5 = .tl (H.length + 1) (ws.map (.int .i64)) ∧ ρ 6 = .int .i64 i) →
      Lp X ⟨133, bs⟩ (loopAt Tryz.f199 0) ρ H' fun ex ρ' H' => H' = H ++ [.cells [.int .i64 x.op, .int .i64 x.width, .list (x.args.map (.int .i64)), .int .i64 x.value], .tok x.args.length] ∧ ex = .exit 0 ∧ ρ' 5 = .tl (H.length + 1) ((widthsOf nodes x.args).map (.int .i64)) := by
  refine loop_up ?_ ?_
  · rintro i ρ H' hi ⟨ws, hws, rfl, h0, h3, h5, h6⟩
    have hget : x.args[i]? = some x.args[i] := by simp [hi]
    have hm := hargs x.args[i] (List.getElem_mem hi)
    have htk : x.args.take (i + 1) = x.args.take i ++ [x.args[i]] := by rw [List.take_add_one, hget]; rfl
    generalize x.args[i] = n at hget hm htk
    obtain ⟨m, rfl⟩ : ∃ m : Nat, n = m := ⟨n.toNat, by omega⟩
    have hlt : m < nodes.length := by omega
    have hget2 : nodes[m]? = some nodes[m] := by simp [hlt]
    have hsn := widthsOf_snoc nodes (x.args.take i) m nodes[m] (by simp)
    generalize nodes[m] = y at hget2 hsn
    have hlen : ws.length = i := by rw [hws]; simp [widthsOf]; omega
    have hroom := room8 ws.length (by omega)
    have hw := add1 i x.args.length hi hl
    rw [← hws, ← htk] at hsn
    replace hsn : Kp (widthsOf nodes (x.args.take (i + 1)) = ws ++ [y.width]) := ⟨hsn⟩
    clear htk hm hws hlen hargs
    conv => arg 3; whnf
    repeat' first
     | (apply z50 (id := 8) (ord := [0, 1, 2, 3, 4, 5, 6]) <;> first | kernel_rfl | skip)
     | (apply z50 (id := 15) (ord := [0, 1, 2, 3, 4, 5, 6, 7, 8, 9, 10, 11, 12, 13, 14]) <;> first | kernel_rfl | skip)
     | (apply z50 (id := 19) (ord := [0, 1, 2, 3, 4, 5, 6, 7, 8, 9, 10, 11, 12]) <;> first | kernel_rfl | skip)
     | (apply z50 (id := 21) (ord := [0, 1, 2, 3, 4, 5, 6, 7, 8, 9, 10, 11, 12, 13, 14, 15, 16, 17, 18, 19, 20]) <;> first | kernel_rfl | skip)
     | (apply z50 (id := 23) (ord := [0, 1, 2, 3, 4, 5, 6, 7, 8, 9, 10]) <;> first | kernel_rfl | skip)
     | (apply z50 (id := 25) (ord := [0, 1, 2, 3, 4, 5, 6, 7, 8, 9]) <;> first | kernel_rfl | skip)
     | (apply z50 (id := 28) (ord := [0, 1, 2, 3, 4, 5, 6]) <;> first | kernel_rfl | skip)
     | (apply z50 (id := 29) (ord := [0, 1, 2, 3, 4, 5, 6]) <;> first | kernel_rfl | skip)
     | (refine zs ?_; repeat' first | apply zs0 | apply zs2 | (intro hc; try have hq := dq hc)) | fail
    exact ⟨ws ++ [y.width], hsn.out.symm, by simp, by (simp only [seval, push_cast, *] <;> rfl), by (simp only [seval, push_cast, *] <;> rfl), by simp [push_cast], by (simp only [seval, push_cast, *] <;> rfl)⟩
  · rintro ρ H' ⟨ws, hws, rfl, h0, h3, h5, h6⟩
    rw [List.take_length] at hws
    have hlen : ws.length = x.args.length := by rw [hws]; simp [widthsOf]
    replace hws : Kp (ws = widthsOf nodes x.args) := ⟨hws⟩
    replace hlen : Kp (ws.length = x.args.length) := ⟨hlen⟩
    clear hargs
    conv => arg 3; whnf
    repeat' first
     | (apply z50 (id := 8) (ord := [0, 1, 2, 3, 4, 5, 6]) <;> first | kernel_rfl | skip)
     | (apply z50 (id := 15) (ord := [0, 1, 2, 3, 4, 5, 6, 7, 8, 9, 10, 11, 12, 13, 14]) <;> first | kernel_rfl | skip)
     | (apply z50 (id := 19) (ord := [0, 1, 2, 3, 4, 5, 6, 7, 8, 9, 10, 11, 12]) <;> first | kernel_rfl | skip)
     | (apply z50 (id := 21) (ord := [0, 1, 2, 3, 4, 5, 6, 7, 8, 9, 10, 11, 12, 13, 14, 15, 16, 17, 18, 19, 20]) <;> first | kernel_rfl | skip)
     | (apply z50 (id := 23) (ord := [0, 1, 2, 3, 4, 5, 6, 7, 8, 9, 10]) <;> first | kernel_rfl | skip)
     | (apply z50 (id := 25) (ord := [0, 1, 2, 3, 4, 5, 6, 7, 8, 9]) <;> first | kernel_rfl | skip)
     | (apply z50 (id := 28) (ord := [0, 1, 2, 3, 4, 5, 6]) <;> first | kernel_rfl | skip)
     | (apply z50 (id := 29) (ord := [0, 1, 2, 3, 4, 5, 6]) <;> first | kernel_rfl | skip)
     | (refine zs ?_; repeat' first | apply zs0 | apply zs2 | (intro hc; try have hq := dq hc)) | fail
    exact ⟨by rw [hlen.out], rfl, by rw [← hws.out]; (simp only [seval, push_cast, *] <;> rfl)⟩

theorem len1 {l : List Int} (h : l.length = 1) : ∃ a, l = [a] := by match l, h with | [a], _ => exact ⟨a, rfl⟩
theorem len2 {l : List Int} (h : l.length = 2) : ∃ a b, l = [a, b] := by match l, h with | [a, b], _ => exact ⟨a, b, rfl⟩
theorem len3 {l : List Int} (h : l.length = 3) : ∃ a b c, l = [a, b, c] := by match l, h with | [a, b, c], _ => exact ⟨a, b, c, rfl⟩
theorem bs_widthsFit (bs : List Nat) (H : Heap) (x : Node) (nodes : List Node) (k : Nat) (hk : x.op = (k : Int)) (hk19 : k < 19) (hk2 : 2 ≤ k) (ha : x.args.length = argC k) (hargs : ∀ n ∈ x.args, 0 ≤ n ∧ n < nodes.length) : callw X bs 199 [.list (nodes.map encNode), encNode x] H = some (.bool (fitsS k x.width (widthsOf nodes x.args) x.value), H) := by
  refine call_at (rs := [.tmp 4]) (N := 133) (fn := Tryz.f199) xk199 xf199 rfl rfl rfl (by simp only [seval, push_cast, List.map_cons, List.map_nil, V.norm, norm1]; rfl) ?_
  have hloop := fun bs ρ => bs_widths bs H x nodes (by rw [ha]; have := argC_le k; omega) hargs 0 ρ
  have hwl : (widthsOf nodes x.args).length = argC k := by simpa [widthsOf] using ha
  generalize hg : widthsOf nodes x.args = ws at hwl
  rw [hg] at hloop
  rw [hk] at hloop
  clear hargs ha
  rcases or19 hk19 with rfl | rfl | rfl | rfl | rfl | rfl | rfl | rfl | rfl | rfl | rfl | rfl | rfl | rfl | rfl | rfl | rfl | rfl | rfl
  all_goals try (exfalso; omega)
  all_goals clear hk19 hk2
  repeat' first
   | (apply z50 (id := 8) (ord := [0, 1, 2, 3, 4, 5, 6]) <;> first | kernel_rfl | skip)
   | (apply z50 (id := 15) (ord := [0, 1, 2, 3, 4, 5, 6, 7, 8, 9, 10, 11, 12, 13, 14]) <;> first | kernel_rfl | skip)
   | (apply z50 (id := 19) (ord := [0, 1, 2, 3, 4, 5, 6, 7, 8, 9, 10, 11, 12]) <;> first | kernel_rfl | skip)
   | (apply z50 (id := 21) (ord := [0, 1, 2, 3, 4, 5, 6, 7, 8, 9, 10, 11, 12, 13, 14, 15, 16, 17, 18, 19, 20]) <;> first | kernel_rfl | skip)
   | (apply z50 (id := 23) (ord := [0, 1, 2, 3, 4, 5, 6, 7, 8, 9, 10]) <;> first | kernel_rfl | skip)
   | (apply z50 (id := 25) (ord := [0, 1, 2, 3, 4, 5, 6, 7, 8, 9]) <;> first | kernel_rfl | skip)
   | (apply z50 (id := 28) (ord := [0, 1, 2, 3, 4, 5, 6]) <;> first | kernel_rfl | skip)
   | (apply z50 (id := 29) (ord := [0, 1, 2, 3, 4, 5, 6]) <;> first | kernel_rfl | skip)
   | (refine zs ?_; repeat' first | apply zs0 | apply zs2 | (intro hc; try have hq := dq hc)) | fail
  all_goals refine lp_then (lp_any (c := loopAt Tryz.f199 0) rfl (hloop _ _ _ (by omega) ⟨[], rfl, rfl, by (simp only [seval, push_cast, *] <;> rfl), by (simp only [seval, push_cast, *] <;> rfl), by (simp only [seval, push_cast, *] <;> rfl), by (simp only [seval, push_cast, *] <;> rfl)⟩)) ?_
  all_goals clear hloop
  all_goals rintro ex ρ' H' ⟨rfl, rfl, h5⟩ hf
  all_goals have f3 := hf 3 rfl
  all_goals simp only [seval, push_cast] at f3
  all_goals clear hf hg
  all_goals first | (obtain ⟨w0, rfl⟩ := len1 hwl) | (obtain ⟨w0, w1, rfl⟩ := len2 hwl) | (obtain ⟨w0, w1, w2, rfl⟩ := len3 hwl)
  all_goals clear hwl
  all_goals simp only [fitsS, at0, List.getD_cons_zero, List.getD_cons_succ, List.any_cons, List.any_nil, Bool.or_false]
  all_goals try clear hk
  repeat' first
   | (apply z50 (id := 8) (ord := [0, 1, 2, 3, 4, 5, 6]) <;> first | kernel_rfl | skip)
   | (apply z50 (id := 15) (ord := [0, 1, 2, 3, 4, 5, 6, 7, 8, 9, 10, 11, 12, 13, 14]) <;> first | kernel_rfl | skip)
   | (apply z50 (id := 19) (ord := [0, 1, 2, 3, 4, 5, 6, 7, 8, 9, 10, 11, 12]) <;> first | kernel_rfl | skip)
   | (apply z50 (id := 21) (ord := [0, 1, 2, 3, 4, 5, 6, 7, 8, 9, 10, 11, 12, 13, 14, 15, 16, 17, 18, 19, 20]) <;> first | kernel_rfl | skip)
   | (apply z50 (id := 23) (ord := [0, 1, 2, 3, 4, 5, 6, 7, 8, 9, 10]) <;> first | kernel_rfl | skip)
   | (apply z50 (id := 25) (ord := [0, 1, 2, 3, 4, 5, 6, 7, 8, 9]) <;> first | kernel_rfl | skip)
   | (apply z50 (id := 28) (ord := [0, 1, 2, 3, 4, 5, 6]) <;> first | kernel_rfl | skip)
   | (apply z50 (id := 29) (ord := [0, 1, 2, 3, 4, 5, 6]) <;> first | kernel_rfl | skip)
   | (refine zs ?_; repeat' first | apply zs0 | apply zs2 | (intro hc; try have hq := dq hc)) | fail

end Go.E
/- Contracts of the references' base, in E: errors of nodes. Own work. -/
namespace Go.E
open Go.Proofs
set_option maxRecDepth 100000
set_option maxHeartbeats 4000000

def oddP (i : Nat) (n : Int) : Bool := !(decide (0 ≤ n) && decide (n ≤ (i : Int) - 1))
theorem bs_odd (bs : List Nat) (H : Heap) (x : Node) (i : Nat) (hl : x.args.length ≤ 1000000) (hi : i ≤ 1000000) (R : Bool) :
    ∀ j ρ H', j ≤ x.args.length → (H' = H ++ [.cells [.int .i64 x.op, .int .i64 x.width, .list (x.args.map (.int .i64)), .int .i64 x.value]] ∧ ρ 2 = .int .i64 i ∧ ρ 7 = .ptr H.length 0 ∧ ρ 8 = .int .i64 j ∧ Kp ((x.args.drop j).any (oddP i) = R)) →
      Lp X ⟨84, bs⟩ (loopAt Tryz.f146 0) ρ H' fun ex ρ' H' => H' = H ++ [.cells [.int .i64 x.op, .int .i64 x.width, .list (x.args.map (.int .i64)), .int .i64 x.value]] ∧ ((ex = .exit 0 ∧ R = false) ∨ (ex = .ret ∧ ρ' 6 = .int .i64 9 ∧ R = true)) := by
  have hi1 := sub1 i hi
  refine loop_up ?_ ?_
  · rintro j ρ H' hj ⟨rfl, h2, h7, h8, hR⟩
    have hget : x.args[j]? = some x.args[j] := by simp [hj]
    generalize x.args[j] = n at hget
    have hw := add1 j x.args.length hj hl
    replace hR := hR.out
    rw [drop_cons hget, List.any_cons] at hR
    replace hR : Kp ((oddP i n || (x.args.drop (j + 1)).any (oddP i)) = R) := ⟨hR⟩
    conv => arg 3; whnf
    repeat' first
     | (apply z51 (id := 6) (ord := [0, 1, 2, 3, 4, 5, 6]) (ps := [(1, 5)]) <;> first | kernel_rfl | skip)
     | (apply z50 (id := 23) (ord := [0, 1, 2, 3, 4, 5, 6, 7]) <;> first | kernel_rfl | skip)
     | (refine zs ?_; repeat' first | apply zs0 | apply zs2 | (intro hc; try have hq := dq hc)) | fail
    all_goals replace hR := hR.out
    all_goals unfold oddP at hR
    · rw [hc] at hR
      exact ⟨rfl, .inr ⟨rfl, by (simp only [seval, push_cast, *] <;> rfl), by rw [← hR]; rfl⟩⟩
    · rw [hc] at hR
      exact ⟨rfl, by (simp only [seval, push_cast, *] <;> rfl), by (simp only [seval, push_cast, *] <;> rfl), by (simp only [seval, push_cast, *] <;> rfl), ⟨by rw [← hR]; rfl⟩⟩
  · rintro ρ H' ⟨rfl, h2, h7, h8, hR⟩
    replace hR := hR.out
    rw [List.drop_length, List.any_nil] at hR
    replace hR : Kp (false = R) := ⟨hR⟩
    conv => arg 3; whnf
    repeat' first
     | (apply z51 (id := 6) (ord := [0, 1, 2, 3, 4, 5, 6]) (ps := [(1, 5)]) <;> first | kernel_rfl | skip)
     | (apply z50 (id := 23) (ord := [0, 1, 2, 3, 4, 5, 6, 7]) <;> first | kernel_rfl | skip)
     | (refine zs ?_; repeat' first | apply zs0 | apply zs2 | (intro hc; try have hq := dq hc)) | fail
    exact ⟨rfl, .inl ⟨rfl, hR.out.symm⟩⟩

theorem bs_nodeErr (bs : List Nat) (H : Heap) (leaves : List Int) (nodes : List Node) (i : Nat) (x : Node) (hx : nodes[i]? = some x) (hl : leaves.length ≤ 1000000) (hn : nodes.length ≤ 1000000) (hal : x.args.length ≤ 1000000) : callw X bs 146 [.list (leaves.map (.int .i64)), .list (nodes.map encNode), .int .i64 i] H = some (.int .i64 (nodeErrS leaves nodes i x), H) := by
  refine call_at (rs := [.tmp 6]) (N := 84) (fn := Tryz.f146) xk146 xf146 rfl rfl rfl (by simp only [seval, push_cast, List.map_cons, List.map_nil, V.norm, norm1]; rfl) ?_
  have hi : i < nodes.length := (List.getElem?_eq_some_iff.1 hx).1
  unfold nodeErrS
  by_cases hop : 0 ≤ x.op ∧ x.op ≤ 18
  case neg =>
    have hb : (decide (0 ≤ x.op) && decide (x.op ≤ 18)) = false := by rw [Bool.and_eq_false_iff, decide_eq_false_iff_not, decide_eq_false_iff_not]; omega
    rw [if_pos hop]
    clear hop
    repeat' first
     | (apply z51 (id := 6) (ord := [0, 1, 2, 3, 4, 5, 6]) (ps := [(1, 5)]) <;> first | kernel_rfl | skip)
     | (apply z50 (id := 23) (ord := [0, 1, 2, 3, 4, 5, 6, 7]) <;> first | kernel_rfl | skip)
     | (refine zs ?_; repeat' first | apply zs0 | apply zs2 | (intro hc; try have hq := dq hc)) | fail
  rw [if_neg (by simpa using hop)]
  obtain ⟨k, hk⟩ : ∃ k : Nat, x.op = k := ⟨x.op.toNat, by omega⟩
  have hk19 : k < 19 := by omega
  have hk18 : (k : Int) ≤ 18 := by omega
  rw [hk, Int.toNat_natCast]
  have hac := fun bs H => bs_argCount0 bs H k x.op hk19 hk
  rw [hk] at hac
  cases hw : isW x.width with
  | false =>
    rw [if_pos rfl]
    unfold isW at hw
    clear hop
    repeat' first
     | (apply z51 (id := 6) (ord := [0, 1, 2, 3, 4, 5, 6]) (ps := [(1, 5)]) <;> first | kernel_rfl | skip)
     | (apply z50 (id := 23) (ord := [0, 1, 2, 3, 4, 5, 6, 7]) <;> first | kernel_rfl | skip)
     | (refine zs ?_; repeat' first | apply zs0 | apply zs2 | (intro hc; try have hq := dq hc)) | fail
  | true =>
  rw [if_neg (by simp)]
  have hw0 : 0 ≤ x.width := by simp only [isW, Bool.and_eq_true, decide_eq_true_eq] at hw; omega
  unfold isW at hw
  by_cases hlen : x.args.length = argC k
  case neg =>
    have dl : ¬ ((x.args.length : Int) = ((argC k : Nat) : Int)) := by omega
    rw [if_pos hlen]
    clear hop hlen
    repeat' first
     | (apply z51 (id := 6) (ord := [0, 1, 2, 3, 4, 5, 6]) (ps := [(1, 5)]) <;> first | kernel_rfl | skip)
     | (apply z50 (id := 23) (ord := [0, 1, 2, 3, 4, 5, 6, 7]) <;> first | kernel_rfl | skip)
     | (refine zs ?_; repeat' first | apply zs0 | apply zs2 | (intro hc; try have hq := dq hc)) | fail
  rw [if_neg (by simpa using hlen)]
  have dl : (x.args.length : Int) = ((argC k : Nat) : Int) := by omega
  have hloop := fun bs ρ => bs_odd bs H x i hal (by omega) (x.args.any (oddP i)) 0 ρ
  rw [hk] at hloop
  have hodd : x.args.any (fun n => !(decide (0 ≤ n) && decide (n ≤ (i : Int) - 1))) = x.args.any (oddP i) := rfl
  rw [hodd]
  have dl2 : Kp ((x.args.length : Int) = ((argC k : Nat) : Int)) := ⟨dl⟩
  have dl3 : decide ((x.args.length : Int) = ((argC k : Nat) : Int)) = true := decide_eq_true dl
  clear hop hodd dl
  repeat' first
   | (apply z51 (id := 6) (ord := [0, 1, 2, 3, 4, 5, 6]) (ps := [(1, 5)]) <;> first | kernel_rfl | skip)
   | (apply z50 (id := 23) (ord := [0, 1, 2, 3, 4, 5, 6, 7]) <;> first | kernel_rfl | skip)
   | (refine zs ?_; repeat' first | apply zs0 | apply zs2 | (intro hc; try have hq := dq hc)) | fail
  refine lp_then (lp_any (c := loopAt Tryz.f146 0) rfl (hloop _ _ _ (by omega) ⟨rfl, by (simp only [seval, push_cast, *] <;> rfl), by (simp only [seval, push_cast, *] <;> rfl), by (simp only [seval, push_cast, *] <;> rfl), ⟨rfl⟩⟩)) ?_
  clear hloop
  rintro ex ρ' H' ⟨rfl, ⟨rfl, ho⟩ | ⟨rfl, h6, ho⟩⟩ hf
  case inr =>
    rw [ho, if_pos rfl]
    repeat' first
     | (apply z51 (id := 6) (ord := [0, 1, 2, 3, 4, 5, 6]) (ps := [(1, 5)]) <;> first | kernel_rfl | skip)
     | (apply z50 (id := 23) (ord := [0, 1, 2, 3, 4, 5, 6, 7]) <;> first | kernel_rfl | skip)
     | (refine zs ?_; repeat' first | apply zs0 | apply zs2 | (intro hc; try have hq := dq hc)) | fail
  rw [ho, if_neg (by simp)]
  have f7 := hf 7 rfl
  have f0 := hf 0 rfl
  have f1 := hf 1 rfl
  simp only [seval, push_cast] at f7 f0 f1
  clear hf
  have hargs : ∀ n ∈ x.args, 0 ≤ n ∧ n < nodes.length := fun n hnm => by
    rw [List.any_eq_false] at ho
    have := ho n hnm
    simp only [oddP, Bool.not_eq_true', Bool.and_eq_false_iff, decide_eq_false_iff_not, not_or, Decidable.not_not] at this
    omega
  have hlen : x.args.length = argC k := by have := dl2.out; omega
  have hwf := fun bs H (h2 : 2 ≤ k) => bs_widthsFit bs H x nodes k hk hk19 h2 hlen hargs
  have hfits := fun bs H => bs_fits bs H x.value x.width hw0
  simp only [encNode, encInts, hk] at hwf
  clear hargs ho hlen hac dl3
  by_cases h0 : k = 0
  · subst h0
    have hG : fitsG x.value x.width = fitsN x.value x.width := by unfold fitsG fitsN; rw [decide_eq_true hw0]; rfl
    simp only [valueErrS, if_true, hG, fitsS]
    clear hwf hG
    cases hv : fitsN x.value x.width
    · simp only [Bool.false_eq_true, if_false]
      repeat' first
       | (apply z51 (id := 6) (ord := [0, 1, 2, 3, 4, 5, 6]) (ps := [(1, 5)]) <;> first | kernel_rfl | skip)
       | (apply z50 (id := 23) (ord := [0, 1, 2, 3, 4, 5, 6, 7]) <;> first | kernel_rfl | skip)
       | (refine zs ?_; repeat' first | apply zs0 | apply zs2 | (intro hc; try have hq := dq hc)) | fail
    · simp only [if_true]
      repeat' first
       | (apply z51 (id := 6) (ord := [0, 1, 2, 3, 4, 5, 6]) (ps := [(1, 5)]) <;> first | kernel_rfl | skip)
       | (apply z50 (id := 23) (ord := [0, 1, 2, 3, 4, 5, 6, 7]) <;> first | kernel_rfl | skip)
       | (refine zs ?_; repeat' first | apply zs0 | apply zs2 | (intro hc; try have hq := dq hc)) | fail
  have d0 : decide ((k : Int) = 0) = false := nat0 k 0 h0
  by_cases h1 : k = 1
  · subst h1
    have hw := sub1 leaves.length hl
    clear hwf hfits
    simp only [valueErrS, if_true, if_neg h0, fitsS]
    by_cases hv : 0 ≤ x.value ∧ x.value < leaves.length
    · obtain ⟨v, hvv⟩ : ∃ v : Nat, x.value = v := ⟨x.value.toNat, by omega⟩
      have hlt : v < leaves.length := by omega
      have hget : leaves[v]? = some leaves[v] := by simp [hlt]
      have hat : at0 leaves v = leaves[v] := by simp [at0, List.getD, hget]
      rw [if_pos hv, hvv, Int.toNat_natCast, hat]
      have hb : (decide (0 ≤ (v : Int)) && decide ((v : Int) ≤ (leaves.length : Int) - 1)) = true := by rw [Bool.and_eq_true, decide_eq_true_eq, decide_eq_true_eq]; omega
      have hle : (v : Int) ≤ (leaves.length : Int) - 1 := by omega
      clear hv hat
      generalize leaves[v] = y at hget
      by_cases hy : y = x.width
      · rw [if_pos hy]
        repeat' first
         | (apply z51 (id := 6) (ord := [0, 1, 2, 3, 4, 5, 6]) (ps := [(1, 5)]) <;> first | kernel_rfl | skip)
         | (apply z50 (id := 23) (ord := [0, 1, 2, 3, 4, 5, 6, 7]) <;> first | kernel_rfl | skip)
         | (refine zs ?_; repeat' first | apply zs0 | apply zs2 | (intro hc; try have hq := dq hc)) | fail
      · rw [if_neg hy]
        repeat' first
         | (apply z51 (id := 6) (ord := [0, 1, 2, 3, 4, 5, 6]) (ps := [(1, 5)]) <;> first | kernel_rfl | skip)
         | (apply z50 (id := 23) (ord := [0, 1, 2, 3, 4, 5, 6, 7]) <;> first | kernel_rfl | skip)
         | (refine zs ?_; repeat' first | apply zs0 | apply zs2 | (intro hc; try have hq := dq hc)) | fail
    · have hb : (decide (0 ≤ x.value) && decide (x.value ≤ (leaves.length : Int) - 1)) = false := by
        rw [Bool.and_eq_false_iff, decide_eq_false_iff_not, decide_eq_false_iff_not]; omega
      rw [if_neg hv]
      clear hv
      repeat' first
       | (apply z51 (id := 6) (ord := [0, 1, 2, 3, 4, 5, 6]) (ps := [(1, 5)]) <;> first | kernel_rfl | skip)
       | (apply z50 (id := 23) (ord := [0, 1, 2, 3, 4, 5, 6, 7]) <;> first | kernel_rfl | skip)
       | (refine zs ?_; repeat' first | apply zs0 | apply zs2 | (intro hc; try have hq := dq hc)) | fail
  have d1 : decide ((k : Int) = 1) = false := nat0 k 1 h1
  replace hwf := fun bs H => hwf bs H (by omega)
  clear hfits
  generalize hg : fitsS k x.width (widthsOf nodes x.args) x.value = fb at hwf
  by_cases h2 : k = 14
  · subst h2
    clear hg
    have e14 : ((14 : Nat) : Int) = 14 := rfl
    rw [e14] at hwf
    simp only [valueErrS, if_true, if_neg h0, if_neg h1]
    cases hv : (decide (0 ≤ x.value) && decide (x.value ≤ 15))
    · simp only [Bool.false_eq_true, if_false]
      repeat' first
       | (apply z51 (id := 6) (ord := [0, 1, 2, 3, 4, 5, 6]) (ps := [(1, 5)]) <;> first | kernel_rfl | skip)
       | (apply z50 (id := 23) (ord := [0, 1, 2, 3, 4, 5, 6, 7]) <;> first | kernel_rfl | skip)
       | (refine zs ?_; repeat' first | apply zs0 | apply zs2 | (intro hc; try have hq := dq hc)) | fail
    · simp only [if_true]
      cases fb
      · repeat' first
         | (apply z51 (id := 6) (ord := [0, 1, 2, 3, 4, 5, 6]) (ps := [(1, 5)]) <;> first | kernel_rfl | skip)
         | (apply z50 (id := 23) (ord := [0, 1, 2, 3, 4, 5, 6, 7]) <;> first | kernel_rfl | skip)
         | (refine zs ?_; repeat' first | apply zs0 | apply zs2 | (intro hc; try have hq := dq hc)) | fail
      · repeat' first
         | (apply z51 (id := 6) (ord := [0, 1, 2, 3, 4, 5, 6]) (ps := [(1, 5)]) <;> first | kernel_rfl | skip)
         | (apply z50 (id := 23) (ord := [0, 1, 2, 3, 4, 5, 6, 7]) <;> first | kernel_rfl | skip)
         | (refine zs ?_; repeat' first | apply zs0 | apply zs2 | (intro hc; try have hq := dq hc)) | fail
  have d2 : decide ((k : Int) = 14) = false := nat0 k 14 h2
  have hhv : hasV k = false := by
    rcases or19 hk19 with rfl | rfl | rfl | rfl | rfl | rfl | rfl | rfl | rfl | rfl | rfl | rfl | rfl | rfl | rfl | rfl | rfl | rfl | rfl <;> first | rfl | (exfalso; omega)
  simp only [valueErrS, if_neg h0, if_neg h1, if_neg h2, hhv]
  clear h0 h1 h2 hg
  by_cases hv : x.value = 0
  · rw [hv] at hwf
    cases fb
    · repeat' first
       | (apply z51 (id := 6) (ord := [0, 1, 2, 3, 4, 5, 6]) (ps := [(1, 5)]) <;> first | kernel_rfl | skip)
       | (apply z50 (id := 23) (ord := [0, 1, 2, 3, 4, 5, 6, 7]) <;> first | kernel_rfl | skip)
       | (refine zs ?_; repeat' first | apply zs0 | apply zs2 | (intro hc; try have hq := dq hc)) | fail
    · repeat' first
       | (apply z51 (id := 6) (ord := [0, 1, 2, 3, 4, 5, 6]) (ps := [(1, 5)]) <;> first | kernel_rfl | skip)
       | (apply z50 (id := 23) (ord := [0, 1, 2, 3, 4, 5, 6, 7]) <;> first | kernel_rfl | skip)
       | (refine zs ?_; repeat' first | apply zs0 | apply zs2 | (intro hc; try have hq := dq hc)) | fail
  · cases fb
    · repeat' first
       | (apply z51 (id := 6) (ord := [0, 1, 2, 3, 4, 5, 6]) (ps := [(1, 5)]) <;> first | kernel_rfl | skip)
       | (apply z50 (id := 23) (ord := [0, 1, 2, 3, 4, 5, 6, 7]) <;> first | kernel_rfl | skip)
       | (refine zs ?_; repeat' first | apply zs0 | apply zs2 | (intro hc; try have hq := dq hc)) | fail
    · repeat' first
       | (apply z51 (id := 6) (ord := [0, 1, 2, 3, 4, 5, 6]) (ps := [(1, 5)]) <;> first | kernel_rfl | skip)
       | (apply z50 (id := 23) (ord := [0, 1, 2, 3, 4, 5, 6, 7]) <;> first | kernel_rfl | skip)
       | (refine zs ?_; repeat' first | apply zs0 | apply zs2 | (intro hc; try have hq := dq hc)) | fail

end Go.E
/- Contracts of the references' base, in E: ports, outputs. Own work. -/
namespace Go.E
open Go.Proofs
set_option maxRecDepth 100000
set_option maxHeartbeats 4000000

theorem bs_nodesErr (bs : List Nat) (H : Heap) (leaves : List Int) (nodes : List Node) (hl : leaves.length ≤ 1000000) (hn : nodes.length ≤ 1000000) (hal : ∀ x ∈ nodes, x.args.length ≤ 1000000) : callw X bs 86 [.list (leaves.map (.int .i64)), .list (nodes.map encNode)] H = some (.tuple [.int .i64 (nodesErrR leaves nodes).1, .int .i64 (nodesErrR leaves nodes).2], H) := by
  refine call_at (rs := [.tmp 4, .tmp 5]) (N := 25) (fn := Tryz.f86) xk86 xf86 rfl rfl rfl (by simp only [seval, push_cast, List.map_cons, List.map_nil, V.norm, norm1]; rfl) ?_
  have key : ∀ (R : Int × Int) (bs : List Nat) i ρ H', i ≤ nodes.length → (H' = H ∧ ρ 0 = .list (leaves.map (.int .i64)) ∧ ρ 1 = .list (nodes.map encNode) ∧ ρ 6 = .int .i64 i ∧ Kp (eachP (nodeErrS leaves nodes) i (nodes.drop i) = R)) →
      Lp X ⟨25, bs⟩ (loopAt Tryz.f86 0) ρ H' fun ex ρ' H' => H' = H ∧ ((ex = .exit 0 ∧ R = (0, 0)) ∨ (ex = .ret ∧ ρ' 4 = .int .i64 R.1 ∧ ρ' 5 = .int .i64 R.2)) := by
    intro R bs
    refine loop_up ?_ ?_
    · rintro i ρ H' hi ⟨rfl, h0, h1, h6, hR⟩
      have hget : nodes[i]? = some nodes[i] := by simp [hi]
      have hne := fun bs H => bs_nodeErr bs H leaves nodes i nodes[i] hget hl hn (hal _ (List.getElem_mem hi))
      have hw := add1 i nodes.length hi hn
      replace hR := hR.out
      rw [drop_cons hget, eachP] at hR
      generalize nodeErrS leaves nodes i nodes[i] = e at hne hR
      replace hR : Kp ((if e ≠ 0 then ((i : Int), e) else eachP (nodeErrS leaves nodes) (i + 1) (nodes.drop (i + 1))) = R) := ⟨hR⟩
      clear hget hal
      conv => arg 3; whnf
      all_goals try (refine zs ?_; repeat' first | apply zs0 | apply zs2 | (intro hc; try have hq := dq hc))
      · have hc : e ≠ 0 := by simpa using hc
        rw [← hR.out, if_pos hc]
        exact ⟨rfl, .inr ⟨rfl, by (simp only [seval, push_cast, *] <;> rfl), by (simp only [seval, push_cast, *] <;> rfl)⟩⟩
      · have hc : e = 0 := by simpa using hc
        exact ⟨rfl, by (simp only [seval, push_cast, *] <;> rfl), by (simp only [seval, push_cast, *] <;> rfl), by (simp only [seval, push_cast, *] <;> rfl), ⟨by rw [← hR.out, if_neg (by simp [hc])]⟩⟩
    · rintro ρ H' ⟨rfl, h0, h1, h6, hR⟩
      replace hR := hR.out
      rw [List.drop_length, eachP] at hR
      replace hR : Kp ((0, 0) = R) := ⟨hR⟩
      clear hal
      conv => arg 3; whnf
      all_goals try (refine zs ?_; repeat' first | apply zs0 | apply zs2 | (intro hc; try have hq := dq hc))
      exact ⟨rfl, .inl ⟨rfl, hR.out.symm⟩⟩
  clear hal
  unfold nodesErrR
  by_cases h : 400 < nodes.length
  · rw [if_pos h]
    have d : (400 : Int) < nodes.length := by omega
    clear key
    all_goals try (refine zs ?_; repeat' first | apply zs0 | apply zs2 | (intro hc; try have hq := dq hc))
  rw [if_neg h]
  have d : decide ((400 : Int) < nodes.length) = false := decide_eq_false (by omega)
  all_goals try (refine zs ?_; repeat' first | apply zs0 | apply zs2 | (intro hc; try have hq := dq hc))
  refine lp_then (lp_any (c := loopAt Tryz.f86 0) rfl (key (eachP (nodeErrS leaves nodes) 0 nodes) _ 0 _ _ (by omega) ⟨rfl, by (simp only [seval, push_cast, *] <;> rfl), by (simp only [seval, push_cast, *] <;> rfl), by (simp only [seval, push_cast, *] <;> rfl), ⟨rfl⟩⟩)) ?_
  clear key
  rintro ex ρ' H' ⟨rfl, ⟨rfl, h2⟩ | ⟨rfl, h2, h3⟩⟩ -
  · rw [h2]
    all_goals try (refine zs ?_; repeat' first | apply zs0 | apply zs2 | (intro hc; try have hq := dq hc))
  · all_goals try (refine zs ?_; repeat' first | apply zs0 | apply zs2 | (intro hc; try have hq := dq hc))

/-- Whether an earlier one has this name (bs_portDup). -/
theorem bs_portDup (bs : List Nat) (H : Heap) (l : List Port) (i : Nat) (p : Port) (hp : l[i]? = some p) (hl : l.length ≤ 1000000) (R : Bool) :
    ∀ j ρ H', j ≤ i → (H' = H ∧ ρ 0 = .list (l.map encPort) ∧ ρ 4 = .int .i64 i ∧ ρ 5 = .int .i64 j ∧ Kp (((l.take i).drop j).any (fun q => decide (q.name = p.name)) = R)) →
      Lp X ⟨48, bs⟩ (loopAt Tryz.f83 1) ρ H' fun ex ρ' H' => H' = H ∧ ((ex = .exit 2 ∧ R = false) ∨ (ex = .ret ∧ ρ' 2 = .int .i64 i ∧ ρ' 3 = .int .i64 5 ∧ R = true)) := by
  have hi := (List.getElem?_eq_some_iff.1 hp).1
  refine loop_up ?_ ?_
  · rintro j ρ H' hj ⟨rfl, h0, h4, h5, hR⟩
    have hget : l[j]? = some l[j] := by simp [show j < l.length by omega]
    have hget2 : (l.take i)[j]? = some l[j] := by rw [List.getElem?_take, if_pos hj]; exact hget
    generalize l[j] = q at hget hget2
    have hw := add1 j i hj (by omega)
    replace hR := hR.out
    rw [drop_cons hget2, List.any_cons] at hR
    replace hR : Kp ((decide (q.name = p.name) || ((l.take i).drop (j + 1)).any (fun q => decide (q.name = p.name))) = R) := ⟨hR⟩
    clear hget2
    have hlt : (j : Int) < i := by omega
    conv => arg 3; whnf
    repeat' first
     | (apply z50 (id := 11) (ord := [0, 1, 2, 3, 4, 5, 6, 7, 8, 9, 10]) <;> first | kernel_rfl | skip)
     | (refine zs ?_; repeat' first | apply zs0 | apply zs2 | (intro hc; try have hq := dq hc)) | fail
    all_goals replace hR := hR.out
    · rw [hc] at hR
      exact ⟨rfl, .inr ⟨rfl, by (simp only [seval, push_cast, *] <;> rfl), by (simp only [seval, push_cast, *] <;> rfl), by rw [← hR]; rfl⟩⟩
    · rw [hc] at hR
      exact ⟨rfl, by (simp only [seval, push_cast, *] <;> rfl), by (simp only [seval, push_cast, *] <;> rfl), by (simp only [seval, push_cast, *] <;> rfl), ⟨by rw [← hR]; rfl⟩⟩
  · rintro ρ H' ⟨rfl, h0, h4, h5, hR⟩
    replace hR := hR.out
    rw [List.drop_of_length_le (by rw [List.length_take]; omega), List.any_nil] at hR
    replace hR : Kp (false = R) := ⟨hR⟩
    conv => arg 3; whnf
    repeat' first
     | (apply z50 (id := 11) (ord := [0, 1, 2, 3, 4, 5, 6, 7, 8, 9, 10]) <;> first | kernel_rfl | skip)
     | (refine zs ?_; repeat' first | apply zs0 | apply zs2 | (intro hc; try have hq := dq hc)) | fail
    exact ⟨rfl, .inl ⟨rfl, hR.out.symm⟩⟩

/-- Whether an earlier one has this name (bs_outDup). -/
theorem bs_outDup (bs : List Nat) (H : Heap) (l : List Outp) (i : Nat) (p : Outp) (hp : l[i]? = some p) (hl : l.length ≤ 1000000) (R : Bool) :
    ∀ j ρ H', j ≤ i → (H' = H ∧ ρ 1 = .list (l.map encOutp) ∧ ρ 6 = .int .i64 i ∧ ρ 7 = .int .i64 j ∧ Kp (((l.take i).drop j).any (fun q => decide (q.name = p.name)) = R)) →
      Lp X ⟨51, bs⟩ (loopAt Tryz.f90 1) ρ H' fun ex ρ' H' => H' = H ∧ ((ex = .exit 2 ∧ R = false) ∨ (ex = .ret ∧ ρ' 4 = .int .i64 i ∧ ρ' 5 = .int .i64 5 ∧ R = true)) := by
  have hi := (List.getElem?_eq_some_iff.1 hp).1
  refine loop_up ?_ ?_
  · rintro j ρ H' hj ⟨rfl, h0, h4, h5, hR⟩
    have hget : l[j]? = some l[j] := by simp [show j < l.length by omega]
    have hget2 : (l.take i)[j]? = some l[j] := by rw [List.getElem?_take, if_pos hj]; exact hget
    generalize l[j] = q at hget hget2
    have hw := add1 j i hj (by omega)
    replace hR := hR.out
    rw [drop_cons hget2, List.any_cons] at hR
    replace hR : Kp ((decide (q.name = p.name) || ((l.take i).drop (j + 1)).any (fun q => decide (q.name = p.name))) = R) := ⟨hR⟩
    clear hget2
    have hlt : (j : Int) < i := by omega
    conv => arg 3; whnf
    repeat' first
     | (apply z50 (id := 11) (ord := [0, 1, 2, 3, 4, 5, 6, 7, 8, 9, 10]) <;> first | kernel_rfl | skip)
     | (refine zs ?_; repeat' first | apply zs0 | apply zs2 | (intro hc; try have hq := dq hc)) | fail
    all_goals replace hR := hR.out
    · rw [hc] at hR
      exact ⟨rfl, .inr ⟨rfl, by (simp only [seval, push_cast, *] <;> rfl), by (simp only [seval, push_cast, *] <;> rfl), by rw [← hR]; rfl⟩⟩
    · rw [hc] at hR
      exact ⟨rfl, by (simp only [seval, push_cast, *] <;> rfl), by (simp only [seval, push_cast, *] <;> rfl), by (simp only [seval, push_cast, *] <;> rfl), ⟨by rw [← hR]; rfl⟩⟩
  · rintro ρ H' ⟨rfl, h0, h4, h5, hR⟩
    replace hR := hR.out
    rw [List.drop_of_length_le (by rw [List.length_take]; omega), List.any_nil] at hR
    replace hR : Kp (false = R) := ⟨hR⟩
    conv => arg 3; whnf
    repeat' first
     | (apply z50 (id := 11) (ord := [0, 1, 2, 3, 4, 5, 6, 7, 8, 9, 10]) <;> first | kernel_rfl | skip)
     | (refine zs ?_; repeat' first | apply zs0 | apply zs2 | (intro hc; try have hq := dq hc)) | fail
    exact ⟨rfl, .inl ⟨rfl, hR.out.symm⟩⟩

end Go.E
/- Contracts of the references' base, in E: ports, outputs, leaves. Own work. -/
namespace Go.E
open Go.Proofs
set_option maxRecDepth 100000
set_option maxHeartbeats 4000000

theorem imp4 {b c d : Bool} (e1 e2 e3 : Int) : (if b = false then e1 else if c = true then e2 else if d = false then e3 else (0 : Int)) = if b = true then (if c = false then (if d = true then 0 else e3) else e2) else e1 := by
  cases b <;> cases c <;> cases d <;> rfl

theorem bs_isNode (bs : List Nat) (H : Heap) (nodes : List Node) (i : Int) (hn : nodes.length ≤ 1000000) : callw X bs 89 [.list (nodes.map encNode), .int .i64 i] H = some (.bool (isNodeL nodes i), H) := by
  refine call_at (rs := [.tmp 4]) (N := 10) (fn := Tryz.f89) xk89 xf89 rfl rfl rfl (by simp only [seval, push_cast, List.map_cons, List.map_nil, V.norm, norm1]; rfl) ?_
  have hw := sub1 nodes.length hn
  unfold isNodeL
  all_goals try (refine zs ?_; repeat' first | apply zs0 | apply zs2 | (intro hc; try have hq := dq hc))
attribute [push_cast] bs_isNode

theorem bs_portsErr (bs : List Nat) (H : Heap) (l : List Port) (hl : l.length ≤ 1000000) (hs : ∀ p ∈ l, p.name.size ≤ 1000000) : callw X bs 83 [.list (l.map encPort)] H = some (.tuple [.int .i64 (portsErrR l).1, .int .i64 (portsErrR l).2], H) := by
  refine call_at (rs := [.tmp 2, .tmp 3]) (N := 48) (fn := Tryz.f83) xk83 xf83 rfl rfl rfl (by simp only [seval, push_cast, List.map_cons, List.map_nil, V.norm, norm1]; rfl) ?_
  have key : ∀ (R : Int × Int) (bs : List Nat) i ρ H', i ≤ l.length → (H' = H ∧ ρ 0 = .list (l.map encPort) ∧ ρ 4 = .int .i64 i ∧ Kp (eachP (portErrR l) i (l.drop i) = R)) →
      Lp X ⟨48, bs⟩ (loopAt Tryz.f83 0) ρ H' fun ex ρ' H' => H' = H ∧ ((ex = .exit 0 ∧ R = (0, 0)) ∨ (ex = .ret ∧ ρ' 2 = .int .i64 R.1 ∧ ρ' 3 = .int .i64 R.2)) := by
    intro R bs
    refine loop_up ?_ ?_
    · rintro i ρ H' hi ⟨rfl, h0, h4, hR⟩
      have hget : l[i]? = some l[i] := by simp [hi]
      have hnm := fun bs H => bs_isName bs H l[i].name (hs _ (List.getElem_mem hi))
      have hw := add1 i l.length hi hl
      replace hR := hR.out
      rw [drop_cons hget, eachP] at hR
      have hin := fun bs ρ => bs_portDup bs H' l i l[i] hget hl ((l.take i).any (fun q => decide (q.name = l[i].name))) 0 ρ
      generalize l[i] = p at hget hnm hR hin
      clear hs
      cases hN : isNameS p.name with
      | false =>
        have he : portErrR l i p = 4 := by unfold portErrR; rw [if_pos hN]
        rw [he, if_pos (by decide)] at hR
        replace hR : Kp (((i : Int), (4 : Int)) = R) := ⟨hR⟩
        clear he
        clear hin
        conv => arg 3; whnf
        repeat' first
         | (apply z50 (id := 11) (ord := [0, 1, 2, 3, 4, 5, 6, 7, 8, 9, 10]) <;> first | kernel_rfl | skip)
         | (refine zs ?_; repeat' first | apply zs0 | apply zs2 | (intro hc; try have hq := dq hc)) | fail
        exact ⟨rfl, .inr ⟨rfl, by rw [← hR.out]; (simp only [seval, push_cast, *] <;> rfl), by rw [← hR.out]; (simp only [seval, push_cast, *] <;> rfl)⟩⟩
      | true =>
      replace hR := Kp.mk hR
      conv => arg 3; whnf
      repeat' first
       | (apply z50 (id := 11) (ord := [0, 1, 2, 3, 4, 5, 6, 7, 8, 9, 10]) <;> first | kernel_rfl | skip)
       | (refine zs ?_; repeat' first | apply zs0 | apply zs2 | (intro hc; try have hq := dq hc)) | fail
      refine lp_then (lp_any (c := loopAt Tryz.f83 1) rfl (hin _ _ _ (by omega) ⟨rfl, by (simp only [seval, push_cast, *] <;> rfl), by (simp only [seval, push_cast, *] <;> rfl), by (simp only [seval, push_cast, *] <;> rfl), ⟨rfl⟩⟩)) ?_
      clear hin
      rintro ex ρ' H2 ⟨rfl, ⟨rfl, h2⟩ | ⟨rfl, h2, h3, h9⟩⟩ hf
      · have f0 := hf 0 rfl
        have f4 := hf 4 rfl
        simp only [seval, push_cast] at f0 f4
        rw [h0] at f0
        rw [h4] at f4
        replace hR := hR.out
        clear hf h0 h4
        cases hW : isW p.width with
        | false =>
          have he : portErrR l i p = 2 := by unfold portErrR; rw [if_neg (by simp [hN]), if_neg (by simp only [h2]; decide), if_pos hW]
          rw [he, if_pos (by decide)] at hR
          replace hR : Kp (((i : Int), (2 : Int)) = R) := ⟨hR⟩
          clear he h2
          unfold isW at hW
          repeat' first
           | (apply z50 (id := 11) (ord := [0, 1, 2, 3, 4, 5, 6, 7, 8, 9, 10]) <;> first | kernel_rfl | skip)
           | (refine zs ?_; repeat' first | apply zs0 | apply zs2 | (intro hc; try have hq := dq hc)) | fail
          exact ⟨rfl, .inr ⟨rfl, by rw [← hR.out]; (simp only [seval, push_cast, *] <;> rfl), by rw [← hR.out]; (simp only [seval, push_cast, *] <;> rfl)⟩⟩
        | true =>
          have he : portErrR l i p = 0 := by unfold portErrR; rw [if_neg (by simp [hN]), if_neg (by simp only [h2]; decide), if_neg (by simp [hW])]
          rw [he, if_neg (by decide)] at hR
          replace hR := Kp.mk hR
          clear he h2
          unfold isW at hW
          repeat' first
           | (apply z50 (id := 11) (ord := [0, 1, 2, 3, 4, 5, 6, 7, 8, 9, 10]) <;> first | kernel_rfl | skip)
           | (refine zs ?_; repeat' first | apply zs0 | apply zs2 | (intro hc; try have hq := dq hc)) | fail
          exact ⟨rfl, by (simp only [seval, push_cast, *] <;> rfl), by (simp only [seval, push_cast, *] <;> rfl), hR⟩
      · replace hR := hR.out
        have he : portErrR l i p = 5 := by unfold portErrR; rw [if_neg (by simp [hN]), if_pos h9]
        rw [he, if_pos (by decide)] at hR
        replace hR : Kp (((i : Int), (5 : Int)) = R) := ⟨hR⟩
        clear he h9
        repeat' first
         | (apply z50 (id := 11) (ord := [0, 1, 2, 3, 4, 5, 6, 7, 8, 9, 10]) <;> first | kernel_rfl | skip)
         | (refine zs ?_; repeat' first | apply zs0 | apply zs2 | (intro hc; try have hq := dq hc)) | fail
        exact ⟨rfl, .inr ⟨rfl, by rw [← hR.out]; (simp only [seval, push_cast, *] <;> rfl), by rw [← hR.out]; (simp only [seval, push_cast, *] <;> rfl)⟩⟩
    · rintro ρ H' ⟨rfl, h0, h4, hR⟩
      replace hR := hR.out
      rw [List.drop_length, eachP] at hR
      replace hR : Kp ((0, 0) = R) := ⟨hR⟩
      clear hs
      conv => arg 3; whnf
      repeat' first
       | (apply z50 (id := 11) (ord := [0, 1, 2, 3, 4, 5, 6, 7, 8, 9, 10]) <;> first | kernel_rfl | skip)
       | (refine zs ?_; repeat' first | apply zs0 | apply zs2 | (intro hc; try have hq := dq hc)) | fail
      exact ⟨rfl, .inl ⟨rfl, hR.out.symm⟩⟩
  clear hs
  unfold portsErrR
  by_cases h : 12 < l.length
  · rw [if_pos h]
    have d : (12 : Int) < l.length := by omega
    clear key
    repeat' first
     | (apply z50 (id := 11) (ord := [0, 1, 2, 3, 4, 5, 6, 7, 8, 9, 10]) <;> first | kernel_rfl | skip)
     | (refine zs ?_; repeat' first | apply zs0 | apply zs2 | (intro hc; try have hq := dq hc)) | fail
  rw [if_neg h]
  have d : decide ((12 : Int) < l.length) = false := decide_eq_false (by omega)
  repeat' first
   | (apply z50 (id := 11) (ord := [0, 1, 2, 3, 4, 5, 6, 7, 8, 9, 10]) <;> first | kernel_rfl | skip)
   | (refine zs ?_; repeat' first | apply zs0 | apply zs2 | (intro hc; try have hq := dq hc)) | fail
  refine lp_then (lp_any (c := loopAt Tryz.f83 0) rfl (key (eachP (portErrR l) 0 l) _ 0 _ _ (by omega) ⟨rfl, by (simp only [seval, push_cast, *] <;> rfl), by (simp only [seval, push_cast, *] <;> rfl), ⟨rfl⟩⟩)) ?_
  clear key
  rintro ex ρ' H' ⟨rfl, ⟨rfl, h2⟩ | ⟨rfl, h2, h3⟩⟩ -
  · rw [h2]
    repeat' first
     | (apply z50 (id := 11) (ord := [0, 1, 2, 3, 4, 5, 6, 7, 8, 9, 10]) <;> first | kernel_rfl | skip)
     | (refine zs ?_; repeat' first | apply zs0 | apply zs2 | (intro hc; try have hq := dq hc)) | fail
  · repeat' first
     | (apply z50 (id := 11) (ord := [0, 1, 2, 3, 4, 5, 6, 7, 8, 9, 10]) <;> first | kernel_rfl | skip)
     | (refine zs ?_; repeat' first | apply zs0 | apply zs2 | (intro hc; try have hq := dq hc)) | fail

end Go.E
/- Contracts of the references' base, in E: outputs, leaves. Own work. -/
namespace Go.E
open Go.Proofs
set_option maxRecDepth 100000
set_option maxHeartbeats 4000000

theorem bs_outsErr (bs : List Nat) (H : Heap) (nodes : List Node) (l : List Outp) (hn : nodes.length ≤ 1000000) (hl : l.length ≤ 1000000) (hs : ∀ p ∈ l, p.name.size ≤ 1000000) : callw X bs 90 [.list (nodes.map encNode), .list (l.map encOutp)] H = some (.tuple [.int .i64 (outsErrR nodes l).1, .int .i64 (outsErrR nodes l).2], H) := by
  refine call_at (rs := [.tmp 4, .tmp 5]) (N := 51) (fn := Tryz.f90) xk90 xf90 rfl rfl rfl (by simp only [seval, push_cast, List.map_cons, List.map_nil, V.norm, norm1]; rfl) ?_
  have key : ∀ (R : Int × Int) (bs : List Nat) i ρ H', i ≤ l.length → (H' = H ∧ ρ 0 = .list (nodes.map encNode) ∧ ρ 1 = .list (l.map encOutp) ∧ ρ 6 = .int .i64 i ∧ Kp (eachP (outErrR nodes l) i (l.drop i) = R)) →
      Lp X ⟨51, bs⟩ (loopAt Tryz.f90 0) ρ H' fun ex ρ' H' => H' = H ∧ ((ex = .exit 0 ∧ R = (0, 0)) ∨ (ex = .ret ∧ ρ' 4 = .int .i64 R.1 ∧ ρ' 5 = .int .i64 R.2)) := by
    intro R bs
    refine loop_up ?_ ?_
    · rintro i ρ H' hi ⟨rfl, h0, h1, h6, hR⟩
      have hget : l[i]? = some l[i] := by simp [hi]
      have hnm := fun bs H => bs_isName bs H l[i].name (hs _ (List.getElem_mem hi))
      have hw := add1 i l.length hi hl
      replace hR := hR.out
      rw [drop_cons hget, eachP] at hR
      have hin := fun bs ρ => bs_outDup bs H' l i l[i] hget hl ((l.take i).any (fun q => decide (q.name = l[i].name))) 0 ρ
      generalize l[i] = p at hget hnm hR hin
      clear hs
      cases hN : isNameS p.name with
      | false =>
        have he : outErrR nodes l i p = 4 := by unfold outErrR; rw [if_pos hN]
        rw [he, if_pos (by decide)] at hR
        replace hR : Kp (((i : Int), (4 : Int)) = R) := ⟨hR⟩
        clear he
        clear hin
        conv => arg 3; whnf
        repeat' first
         | (apply z50 (id := 11) (ord := [0, 1, 2, 3, 4, 5, 6, 7, 8, 9, 10]) <;> first | kernel_rfl | skip)
         | (refine zs ?_; repeat' first | apply zs0 | apply zs2 | (intro hc; try have hq := dq hc)) | fail
        exact ⟨rfl, .inr ⟨rfl, by rw [← hR.out]; (simp only [seval, push_cast, *] <;> rfl), by rw [← hR.out]; (simp only [seval, push_cast, *] <;> rfl)⟩⟩
      | true =>
      replace hR := Kp.mk hR
      conv => arg 3; whnf
      repeat' first
       | (apply z50 (id := 11) (ord := [0, 1, 2, 3, 4, 5, 6, 7, 8, 9, 10]) <;> first | kernel_rfl | skip)
       | (refine zs ?_; repeat' first | apply zs0 | apply zs2 | (intro hc; try have hq := dq hc)) | fail
      refine lp_then (lp_any (c := loopAt Tryz.f90 1) rfl (hin _ _ _ (by omega) ⟨rfl, by (simp only [seval, push_cast, *] <;> rfl), by (simp only [seval, push_cast, *] <;> rfl), by (simp only [seval, push_cast, *] <;> rfl), ⟨rfl⟩⟩)) ?_
      clear hin
      rintro ex ρ' H2 ⟨rfl, ⟨rfl, h2⟩ | ⟨rfl, h2, h3, h9⟩⟩ hf
      · have f0 := hf 0 rfl
        have f1 := hf 1 rfl
        have f6 := hf 6 rfl
        simp only [seval, push_cast] at f0 f1 f6
        rw [h0] at f0
        rw [h1] at f1
        rw [h6] at f6
        replace hR := hR.out
        clear hf h0 h1 h6
        cases hW : isNodeL nodes p.node with
        | false =>
          have he : outErrR nodes l i p = 9 := by unfold outErrR; rw [if_neg (by simp [hN]), if_neg (by simp only [h2]; decide), if_pos hW]
          rw [he, if_pos (by decide)] at hR
          replace hR : Kp (((i : Int), (9 : Int)) = R) := ⟨hR⟩
          clear he h2
          repeat' first
           | (apply z50 (id := 11) (ord := [0, 1, 2, 3, 4, 5, 6, 7, 8, 9, 10]) <;> first | kernel_rfl | skip)
           | (refine zs ?_; repeat' first | apply zs0 | apply zs2 | (intro hc; try have hq := dq hc)) | fail
          exact ⟨rfl, .inr ⟨rfl, by rw [← hR.out]; (simp only [seval, push_cast, *] <;> rfl), by rw [← hR.out]; (simp only [seval, push_cast, *] <;> rfl)⟩⟩
        | true =>
          have he : outErrR nodes l i p = 0 := by unfold outErrR; rw [if_neg (by simp [hN]), if_neg (by simp only [h2]; decide), if_neg (by simp [hW])]
          rw [he, if_neg (by decide)] at hR
          replace hR := Kp.mk hR
          clear he h2
          repeat' first
           | (apply z50 (id := 11) (ord := [0, 1, 2, 3, 4, 5, 6, 7, 8, 9, 10]) <;> first | kernel_rfl | skip)
           | (refine zs ?_; repeat' first | apply zs0 | apply zs2 | (intro hc; try have hq := dq hc)) | fail
          exact ⟨rfl, by (simp only [seval, push_cast, *] <;> rfl), by (simp only [seval, push_cast, *] <;> rfl), by (simp only [seval, push_cast, *] <;> rfl), hR⟩
      · replace hR := hR.out
        have he : outErrR nodes l i p = 5 := by unfold outErrR; rw [if_neg (by simp [hN]), if_pos h9]
        rw [he, if_pos (by decide)] at hR
        replace hR : Kp (((i : Int), (5 : Int)) = R) := ⟨hR⟩
        clear he h9
        repeat' first
         | (apply z50 (id := 11) (ord := [0, 1, 2, 3, 4, 5, 6, 7, 8, 9, 10]) <;> first | kernel_rfl | skip)
         | (refine zs ?_; repeat' first | apply zs0 | apply zs2 | (intro hc; try have hq := dq hc)) | fail
        exact ⟨rfl, .inr ⟨rfl, by rw [← hR.out]; (simp only [seval, push_cast, *] <;> rfl), by rw [← hR.out]; (simp only [seval, push_cast, *] <;> rfl)⟩⟩
    · rintro ρ H' ⟨rfl, h0, h1, h6, hR⟩
      replace hR := hR.out
      rw [List.drop_length, eachP] at hR
      replace hR : Kp ((0, 0) = R) := ⟨hR⟩
      clear hs
      conv => arg 3; whnf
      repeat' first
       | (apply z50 (id := 11) (ord := [0, 1, 2, 3, 4, 5, 6, 7, 8, 9, 10]) <;> first | kernel_rfl | skip)
       | (refine zs ?_; repeat' first | apply zs0 | apply zs2 | (intro hc; try have hq := dq hc)) | fail
      exact ⟨rfl, .inl ⟨rfl, hR.out.symm⟩⟩
  clear hs
  unfold outsErrR
  by_cases h : 12 < l.length
  · rw [if_pos h]
    have d : (12 : Int) < l.length := by omega
    clear key
    repeat' first
     | (apply z50 (id := 11) (ord := [0, 1, 2, 3, 4, 5, 6, 7, 8, 9, 10]) <;> first | kernel_rfl | skip)
     | (refine zs ?_; repeat' first | apply zs0 | apply zs2 | (intro hc; try have hq := dq hc)) | fail
  rw [if_neg h]
  have d : decide ((12 : Int) < l.length) = false := decide_eq_false (by omega)
  repeat' first
   | (apply z50 (id := 11) (ord := [0, 1, 2, 3, 4, 5, 6, 7, 8, 9, 10]) <;> first | kernel_rfl | skip)
   | (refine zs ?_; repeat' first | apply zs0 | apply zs2 | (intro hc; try have hq := dq hc)) | fail
  refine lp_then (lp_any (c := loopAt Tryz.f90 0) rfl (key (eachP (outErrR nodes l) 0 l) _ 0 _ _ (by omega) ⟨rfl, by (simp only [seval, push_cast, *] <;> rfl), by (simp only [seval, push_cast, *] <;> rfl), by (simp only [seval, push_cast, *] <;> rfl), ⟨rfl⟩⟩)) ?_
  clear key
  rintro ex ρ' H' ⟨rfl, ⟨rfl, h2⟩ | ⟨rfl, h2, h3⟩⟩ -
  · rw [h2]
    repeat' first
     | (apply z50 (id := 11) (ord := [0, 1, 2, 3, 4, 5, 6, 7, 8, 9, 10]) <;> first | kernel_rfl | skip)
     | (refine zs ?_; repeat' first | apply zs0 | apply zs2 | (intro hc; try have hq := dq hc)) | fail
  · repeat' first
     | (apply z50 (id := 11) (ord := [0, 1, 2, 3, 4, 5, 6, 7, 8, 9, 10]) <;> first | kernel_rfl | skip)
     | (refine zs ?_; repeat' first | apply zs0 | apply zs2 | (intro hc; try have hq := dq hc)) | fail

end Go.E
/- Contracts of the references' base, in E: leaves, conditions. Own work. -/
namespace Go.E
open Go.Proofs
set_option maxRecDepth 100000
set_option maxHeartbeats 4000000

theorem bs_netLeaves (bs : List Nat) (H : Heap) (n : Netl) (hi : n.inputs.length ≤ 1000) (hr : n.regs.length ≤ 1000) : callw X bs 87 [encNetl n] H = some (.list ((leavesN n).map (.int .i64)), H) := by
  refine call_at (rs := [.tmp 2]) (N := 39) (fn := Tryz.f87) xk87 xf87 rfl rfl rfl (by simp only [seval, push_cast, List.map_cons, List.map_nil, V.norm, norm1]; rfl) ?_
  have key0 : ∀ (t : HObj) (bs : List Nat) i ρ H', i ≤ n.inputs.length → (∃ ws, ws = (n.inputs.take i).map (·.width) ∧ H' = H ++ [.cells (cellsNetl n), t, .tok ws.length] ∧ ρ 1 = .ptr H.length 0 ∧ ρ 3 = .tl (H.length + 2) (ws.map (.int .i64)) ∧ ρ 4 = .int .i64 i) →
      Lp X ⟨39, bs⟩ (loopAt Tryz.f87 0) ρ H' fun ex ρ' H' => ∃ ws, ws = n.inputs.map (·.width) ∧ H' = H ++ [.cells (cellsNetl n), t, .tok ws.length] ∧ ρ' 3 = .tl (H.length + 2) (ws.map (.int .i64)) ∧ ex = .exit 0 := by
    intro t bs
    refine loop_up ?_ ?_
    · rintro i ρ H' hlt ⟨ws, hws, rfl, h1, h3, h11⟩
      have hget : n.inputs[i]? = some n.inputs[i] := by simp [hlt]
      have htk : n.inputs.take (i + 1) = n.inputs.take i ++ [n.inputs[i]] := by rw [List.take_add_one, hget]; rfl
      generalize n.inputs[i] = p at hget htk
      have hlen : ws.length ≤ 2000 := by rw [hws]; simp; omega
      have hroom := room8 ws.length (by omega)
      have hw := add1 i n.inputs.length hlt (by omega)
      have hsn : Kp ((n.inputs.take (i + 1)).map (·.width) = ws ++ [p.width]) := ⟨by rw [htk, hws]; simp⟩
      clear hws hlen htk
      conv => arg 3; whnf
      all_goals try (refine zs ?_; repeat' first | apply zs0 | apply zs2 | (intro hc; try have hq := dq hc))
      exact ⟨ws ++ [p.width], hsn.out.symm, by simp only [List.length_append, List.length_singleton, cellsNetl], by (simp only [seval, push_cast, *] <;> rfl), by simp [push_cast], by (simp only [seval, push_cast, *] <;> rfl)⟩
    · rintro ρ H' ⟨ws, hws, rfl, h1, h3, h11⟩
      rw [List.take_length] at hws
      replace hws : Kp (ws = n.inputs.map (·.width)) := ⟨hws⟩
      conv => arg 3; whnf
      all_goals try (refine zs ?_; repeat' first | apply zs0 | apply zs2 | (intro hc; try have hq := dq hc))
      exact ⟨ws, hws.out, by simp only [cellsNetl], by (simp only [seval, push_cast, *] <;> rfl), rfl⟩
  have key1 : ∀ (t : HObj) (bs : List Nat) i ρ H', i ≤ n.regs.length → (∃ ws, ws = n.inputs.map (·.width) ++ (n.regs.take i).map (·.width) ∧ H' = H ++ [.cells (cellsNetl n), t, .tok ws.length] ∧ ρ 1 = .ptr H.length 0 ∧ ρ 3 = .tl (H.length + 2) (ws.map (.int .i64)) ∧ ρ 5 = .int .i64 i) →
      Lp X ⟨39, bs⟩ (loopAt Tryz.f87 1) ρ H' fun ex ρ' H' => ∃ ws, ws = leavesN n ∧ H' = H ++ [.cells (cellsNetl n), t, .tok ws.length] ∧ ρ' 3 = .tl (H.length + 2) (ws.map (.int .i64)) ∧ ex = .exit 2 := by
    intro t bs
    refine loop_up ?_ ?_
    · rintro i ρ H' hlt ⟨ws, hws, rfl, h1, h3, h11⟩
      have hget : n.regs[i]? = some n.regs[i] := by simp [hlt]
      have htk : n.regs.take (i + 1) = n.regs.take i ++ [n.regs[i]] := by rw [List.take_add_one, hget]; rfl
      generalize n.regs[i] = p at hget htk
      have hlen : ws.length ≤ 2000 := by rw [hws]; simp; omega
      have hroom := room8 ws.length (by omega)
      have hw := add1 i n.regs.length hlt (by omega)
      have hsn : Kp (n.inputs.map (·.width) ++ (n.regs.take (i + 1)).map (·.width) = ws ++ [p.width]) := ⟨by rw [htk, hws]; simp⟩
      clear hws hlen htk
      conv => arg 3; whnf
      all_goals try (refine zs ?_; repeat' first | apply zs0 | apply zs2 | (intro hc; try have hq := dq hc))
      exact ⟨ws ++ [p.width], hsn.out.symm, by simp only [List.length_append, List.length_singleton, cellsNetl], by (simp only [seval, push_cast, *] <;> rfl), by simp [push_cast], by (simp only [seval, push_cast, *] <;> rfl)⟩
    · rintro ρ H' ⟨ws, hws, rfl, h1, h3, h11⟩
      rw [List.take_length] at hws
      replace hws : Kp (ws = n.inputs.map (·.width) ++ n.regs.map (·.width)) := ⟨hws⟩
      conv => arg 3; whnf
      all_goals try (refine zs ?_; repeat' first | apply zs0 | apply zs2 | (intro hc; try have hq := dq hc))
      exact ⟨ws, hws.out, by simp only [cellsNetl], by (simp only [seval, push_cast, *] <;> rfl), rfl⟩
  all_goals try (refine zs ?_; repeat' first | apply zs0 | apply zs2 | (intro hc; try have hq := dq hc))
  refine lp_then (lp_any (c := loopAt Tryz.f87 0) rfl (key0 _ _ 0 _ _ (by omega) ⟨[], rfl, rfl, by (simp only [seval, push_cast, *] <;> rfl), by (simp only [seval, push_cast, *] <;> rfl), by (simp only [seval, push_cast, *] <;> rfl)⟩)) ?_
  rintro ex ρ' H' ⟨ws, hws, rfl, h3, rfl⟩ hf
  have f1 := hf 1 rfl
  simp only [seval, push_cast] at f1
  clear key0 hf
  replace hws : Kp (ws = n.inputs.map (·.width)) := ⟨hws⟩
  all_goals try (refine zs ?_; repeat' first | apply zs0 | apply zs2 | (intro hc; try have hq := dq hc))
  refine lp_then (lp_any (c := loopAt Tryz.f87 1) rfl (key1 _ _ 0 _ _ (by omega) ⟨ws, by simp [hws.out], rfl, by (simp only [seval, push_cast, *] <;> rfl), by (simp only [seval, push_cast, *] <;> rfl), by (simp only [seval, push_cast, *] <;> rfl)⟩)) ?_
  rintro ex ρ' H' ⟨ws, rfl, rfl, h3, rfl⟩ -
  clear key1
  all_goals try (refine zs ?_; repeat' first | apply zs0 | apply zs2 | (intro hc; try have hq := dq hc))

theorem bs_isCond (bs : List Nat) (H : Heap) (nodes : List Node) (i : Int) (hn : nodes.length ≤ 1000000) : callw X bs 88 [.list (nodes.map encNode), .int .i64 i] H = some (.bool (isNodeL nodes i && decide (widthL nodes i = 1)), H) := by
  refine call_at (rs := [.tmp 4]) (N := 16) (fn := Tryz.f88) xk88 xf88 rfl rfl rfl (by simp only [seval, push_cast, List.map_cons, List.map_nil, V.norm, norm1]; rfl) ?_
  have hin := fun bs H => bs_isNode bs H nodes i hn
  cases h : isNodeL nodes i with
  | false =>
    all_goals try (refine zs ?_; repeat' first | apply zs0 | apply zs2 | (intro hc; try have hq := dq hc))
  | true =>
    obtain ⟨m, rfl, hlt⟩ : ∃ m : Nat, i = m ∧ m < nodes.length := by
      simp only [isNodeL, Bool.and_eq_true, decide_eq_true_eq] at h
      exact ⟨i.toNat, by omega, by omega⟩
    have hget : nodes[m]? = some nodes[m] := by simp [hlt]
    simp only [widthL, Int.toNat_natCast, hget]
    generalize nodes[m] = y at hget
    all_goals try (refine zs ?_; repeat' first | apply zs0 | apply zs2 | (intro hc; try have hq := dq hc))

end Go.E
/- Contracts of the references' base, in E: netlists. Own work. -/
namespace Go.E
open Go.Proofs
set_option maxRecDepth 100000
set_option maxHeartbeats 4000000

theorem ne_dup1 (bs : List Nat) (H : Heap) (n : Netl) (i : Nat) (r : Reg) (a b : Nat) (hr : n.regs[i]? = some r) (hl : n.regs.length ≤ 1000) (hl2 : n.inputs.length ≤ 1000) (hA : H[a]? = some (.cells (cellsNetl n))) (hB : H[b]? = some (.cells [.str r.name, .int .i64 r.width, .int .i64 r.init, .int .i64 r.enable, .int .i64 r.next])) (R : Bool) :
    ∀ j ρ H', j ≤ i → (H' = H ∧ ρ 1 = .ptr a 0 ∧ ρ 7 = .ptr b 0 ∧ ρ 6 = .int .i64 i ∧ ρ 8 = .int .i64 j ∧ Kp (((n.regs.take i).drop j).any (fun q => decide (q.name = r.name)) = R)) →
      Lp X ⟨155, bs⟩ (loopAt Tryz.f15 1) ρ H' fun ex ρ' H' => H' = H ∧ ((ex = .exit 2 ∧ R = false) ∨ (ex = .ret ∧ ρ' 2 = .int .i64 i ∧ ρ' 3 = .int .i64 5 ∧ R = true)) := by
  have hi := (List.getElem?_eq_some_iff.1 hr).1
  simp only [cellsNetl] at hA
  refine loop_up ?_ ?_
  · rintro j ρ H' hj ⟨rfl, h1, h7, h6, h8, hR⟩
    have hget : n.regs[j]? = some n.regs[j] := by simp [show j < n.regs.length by omega]
    have hget2 : (n.regs.take i)[j]? = some n.regs[j] := by rw [List.getElem?_take, if_pos hj]; exact hget
    generalize n.regs[j] = q at hget hget2
    have hw := add1 j i hj (by omega)
    replace hR := hR.out
    rw [drop_cons hget2, List.any_cons] at hR
    replace hR : Kp ((decide (q.name = r.name) || ((n.regs.take i).drop (j + 1)).any (fun q => decide (q.name = r.name))) = R) := ⟨hR⟩
    clear hget2 hr
    have hlt : (j : Int) < (i : Nat) := by omega
    conv => arg 3; whnf
    repeat' first
     | (apply z50 (id := 17) (ord := [0, 1, 2, 3, 4, 5, 6, 7, 8]) <;> first | kernel_rfl | skip)
     | (apply z50 (id := 22) (ord := [0, 1, 2, 3, 4, 5, 6, 7, 8]) <;> first | kernel_rfl | skip)
     | (apply z51 (id := 26) (ord := [0, 2, 3, 1, 4, 5, 6, 7, 8, 9]) (ps := [(2, 3)]) <;> first | kernel_rfl | skip)
     | (apply z50 (id := 35) (ord := [0, 1, 2, 3, 4, 5, 6, 7, 8, 9]) <;> first | kernel_rfl | skip)
     | (refine zs ?_; repeat' first | apply zs0 | apply zs2 | (intro hc; try have hq := dq hc)) | fail
    all_goals replace hR := hR.out
    · rw [hc] at hR
      exact ⟨rfl, .inr ⟨rfl, by (simp only [seval, push_cast, *] <;> rfl), by (simp only [seval, push_cast, *] <;> rfl), by rw [← hR]; rfl⟩⟩
    · rw [hc] at hR
      exact ⟨rfl, by (simp only [seval, push_cast, *] <;> rfl), by (simp only [seval, push_cast, *] <;> rfl), by (simp only [seval, push_cast, *] <;> rfl), by (simp only [seval, push_cast, *] <;> rfl), ⟨by rw [← hR]; rfl⟩⟩
  · rintro ρ H' ⟨rfl, h1, h7, h6, h8, hR⟩
    replace hR := hR.out
    rw [List.drop_of_length_le (by first | (simp; done) | (simp; omega)), List.any_nil] at hR
    replace hR : Kp (false = R) := ⟨hR⟩
    clear hr
    conv => arg 3; whnf
    repeat' first
     | (apply z50 (id := 17) (ord := [0, 1, 2, 3, 4, 5, 6, 7, 8]) <;> first | kernel_rfl | skip)
     | (apply z50 (id := 22) (ord := [0, 1, 2, 3, 4, 5, 6, 7, 8]) <;> first | kernel_rfl | skip)
     | (apply z51 (id := 26) (ord := [0, 2, 3, 1, 4, 5, 6, 7, 8, 9]) (ps := [(2, 3)]) <;> first | kernel_rfl | skip)
     | (apply z50 (id := 35) (ord := [0, 1, 2, 3, 4, 5, 6, 7, 8, 9]) <;> first | kernel_rfl | skip)
     | (refine zs ?_; repeat' first | apply zs0 | apply zs2 | (intro hc; try have hq := dq hc)) | fail
    exact ⟨rfl, .inl ⟨rfl, hR.out.symm⟩⟩

theorem ne_dup2 (bs : List Nat) (H : Heap) (n : Netl) (i : Nat) (r : Reg) (a b : Nat) (hr : n.regs[i]? = some r) (hl : n.regs.length ≤ 1000) (hl2 : n.inputs.length ≤ 1000) (hA : H[a]? = some (.cells (cellsNetl n))) (hB : H[b]? = some (.cells [.str r.name, .int .i64 r.width, .int .i64 r.init, .int .i64 r.enable, .int .i64 r.next])) (R : Bool) :
    ∀ j ρ H', j ≤ n.inputs.length → (H' = H ∧ ρ 1 = .ptr a 0 ∧ ρ 7 = .ptr b 0 ∧ ρ 6 = .int .i64 i ∧ ρ 9 = .int .i64 j ∧ Kp (((n.inputs).drop j).any (fun q => decide (q.name = r.name)) = R)) →
      Lp X ⟨155, bs⟩ (loopAt Tryz.f15 2) ρ H' fun ex ρ' H' => H' = H ∧ ((ex = .exit 4 ∧ R = false) ∨ (ex = .ret ∧ ρ' 2 = .int .i64 i ∧ ρ' 3 = .int .i64 5 ∧ R = true)) := by
  have hi := (List.getElem?_eq_some_iff.1 hr).1
  simp only [cellsNetl] at hA
  refine loop_up ?_ ?_
  · rintro j ρ H' hj ⟨rfl, h1, h7, h6, h8, hR⟩
    have hget : n.inputs[j]? = some n.inputs[j] := by simp [show j < n.inputs.length by omega]
    have hget2 : (n.inputs)[j]? = some n.inputs[j] := by exact hget
    generalize n.inputs[j] = q at hget hget2
    have hw := add1 j n.inputs.length hj (by omega)
    replace hR := hR.out
    rw [drop_cons hget2, List.any_cons] at hR
    replace hR : Kp ((decide (q.name = r.name) || ((n.inputs).drop (j + 1)).any (fun q => decide (q.name = r.name))) = R) := ⟨hR⟩
    clear hget2 hr
    have hlt : (j : Int) < (n.inputs.length : Nat) := by omega
    conv => arg 3; whnf
    repeat' first
     | (apply z50 (id := 17) (ord := [0, 1, 2, 3, 4, 5, 6, 7, 8]) <;> first | kernel_rfl | skip)
     | (apply z50 (id := 22) (ord := [0, 1, 2, 3, 4, 5, 6, 7, 8]) <;> first | kernel_rfl | skip)
     | (apply z51 (id := 26) (ord := [0, 2, 3, 1, 4, 5, 6, 7, 8, 9]) (ps := [(2, 3)]) <;> first | kernel_rfl | skip)
     | (apply z50 (id := 35) (ord := [0, 1, 2, 3, 4, 5, 6, 7, 8, 9]) <;> first | kernel_rfl | skip)
     | (refine zs ?_; repeat' first | apply zs0 | apply zs2 | (intro hc; try have hq := dq hc)) | fail
    all_goals replace hR := hR.out
    · rw [hc] at hR
      exact ⟨rfl, .inr ⟨rfl, by (simp only [seval, push_cast, *] <;> rfl), by (simp only [seval, push_cast, *] <;> rfl), by rw [← hR]; rfl⟩⟩
    · rw [hc] at hR
      exact ⟨rfl, by (simp only [seval, push_cast, *] <;> rfl), by (simp only [seval, push_cast, *] <;> rfl), by (simp only [seval, push_cast, *] <;> rfl), by (simp only [seval, push_cast, *] <;> rfl), ⟨by rw [← hR]; rfl⟩⟩
  · rintro ρ H' ⟨rfl, h1, h7, h6, h8, hR⟩
    replace hR := hR.out
    rw [List.drop_of_length_le (by first | (simp; done) | (simp; omega)), List.any_nil] at hR
    replace hR : Kp (false = R) := ⟨hR⟩
    clear hr
    conv => arg 3; whnf
    repeat' first
     | (apply z50 (id := 17) (ord := [0, 1, 2, 3, 4, 5, 6, 7, 8]) <;> first | kernel_rfl | skip)
     | (apply z50 (id := 22) (ord := [0, 1, 2, 3, 4, 5, 6, 7, 8]) <;> first | kernel_rfl | skip)
     | (apply z51 (id := 26) (ord := [0, 2, 3, 1, 4, 5, 6, 7, 8, 9]) (ps := [(2, 3)]) <;> first | kernel_rfl | skip)
     | (apply z50 (id := 35) (ord := [0, 1, 2, 3, 4, 5, 6, 7, 8, 9]) <;> first | kernel_rfl | skip)
     | (refine zs ?_; repeat' first | apply zs0 | apply zs2 | (intro hc; try have hq := dq hc)) | fail
    exact ⟨rfl, .inl ⟨rfl, hR.out.symm⟩⟩

theorem ne_regs (bs : List Nat) (H : Heap) (n : Netl) (hS : Small n) (R : Int × Int) :
    ∀ i ρ H', i ≤ n.regs.length → (∃ junk, H' = H ++ .cells (cellsNetl n) :: junk ∧ ρ 1 = .ptr H.length 0 ∧ ρ 6 = .int .i64 i ∧ Kp (eachP (regErrR n) i (n.regs.drop i) = R)) →
      Lp X ⟨155, bs⟩ (loopAt Tryz.f15 0) ρ H' fun ex ρ' H' => ∃ junk, H' = H ++ .cells (cellsNetl n) :: junk ∧ ((ex = .exit 0 ∧ R = (0, 0)) ∨ (ex = .ret ∧ ρ' 2 = .int .i64 R.1 ∧ ρ' 3 = .int .i64 R.2 ∧ R.2 ≠ 0)) := by
  have hr := hS.regs
  have hi2 := hS.inputs
  have hs := hS.rgn
  clear hS
  refine loop_up ?_ ?_
  · rintro i ρ H' hi ⟨junk, rfl, h1, h6, hR⟩
    have hget : n.regs[i]? = some n.regs[i] := by simp [hi]
    have hnm := fun bs H => bs_isName bs H n.regs[i].name (by have := hs _ (List.getElem_mem hi); omega)
    have hw := add1 i n.regs.length hi (by omega)
    replace hR := hR.out
    rw [drop_cons hget, eachP] at hR
    have hin1 := fun bs ρ => ne_dup1 bs (H ++ .cells (cellsNetl n) :: (junk ++ [.cells [.str n.regs[i].name, .int .i64 n.regs[i].width, .int .i64 n.regs[i].init, .int .i64 n.regs[i].enable, .int .i64 n.regs[i].next]])) n i n.regs[i] H.length (H.length + (junk.length + 1)) hget hr hi2 (by simp) (by simp) ((n.regs.take i).any (fun q => decide (q.name = n.regs[i].name))) 0 ρ
    have hin2 := fun bs ρ => ne_dup2 bs (H ++ .cells (cellsNetl n) :: (junk ++ [.cells [.str n.regs[i].name, .int .i64 n.regs[i].width, .int .i64 n.regs[i].init, .int .i64 n.regs[i].enable, .int .i64 n.regs[i].next]])) n i n.regs[i] H.length (H.length + (junk.length + 1)) hget hr hi2 (by simp) (by simp) (n.inputs.any (fun q => decide (q.name = n.regs[i].name))) 0 ρ
    generalize n.regs[i] = p at hget hnm hR hin1 hin2
    clear hs
    cases hN : isNameS p.name with
    | false =>
      have he : regErrR n i p = 4 := by unfold regErrR; rw [if_pos hN]
      rw [he, if_pos (by decide)] at hR
      replace hR : Kp (((i : Int), (4 : Int)) = R) := ⟨hR⟩
      clear he hin1 hin2
      conv => arg 3; whnf
      repeat' first
       | (apply z50 (id := 17) (ord := [0, 1, 2, 3, 4, 5, 6, 7, 8]) <;> first | kernel_rfl | skip)
       | (apply z50 (id := 22) (ord := [0, 1, 2, 3, 4, 5, 6, 7, 8]) <;> first | kernel_rfl | skip)
       | (apply z51 (id := 26) (ord := [0, 2, 3, 1, 4, 5, 6, 7, 8, 9]) (ps := [(2, 3)]) <;> first | kernel_rfl | skip)
       | (apply z50 (id := 35) (ord := [0, 1, 2, 3, 4, 5, 6, 7, 8, 9]) <;> first | kernel_rfl | skip)
       | (refine zs ?_; repeat' first | apply zs0 | apply zs2 | (intro hc; try have hq := dq hc)) | fail
      exact ⟨_, rfl, .inr ⟨rfl, by rw [← hR.out]; (simp only [seval, push_cast, *] <;> rfl), by rw [← hR.out]; (simp only [seval, push_cast, *] <;> rfl), by rw [← hR.out]; simp⟩⟩
    | true =>
    replace hR := Kp.mk hR
    conv => arg 3; whnf
    repeat' first
     | (apply z50 (id := 17) (ord := [0, 1, 2, 3, 4, 5, 6, 7, 8]) <;> first | kernel_rfl | skip)
     | (apply z50 (id := 22) (ord := [0, 1, 2, 3, 4, 5, 6, 7, 8]) <;> first | kernel_rfl | skip)
     | (apply z51 (id := 26) (ord := [0, 2, 3, 1, 4, 5, 6, 7, 8, 9]) (ps := [(2, 3)]) <;> first | kernel_rfl | skip)
     | (apply z50 (id := 35) (ord := [0, 1, 2, 3, 4, 5, 6, 7, 8, 9]) <;> first | kernel_rfl | skip)
     | (refine zs ?_; repeat' first | apply zs0 | apply zs2 | (intro hc; try have hq := dq hc)) | fail
    refine lp_then (lp_any (c := loopAt Tryz.f15 1) rfl (hin1 _ _ _ (by omega) ⟨rfl, by (simp only [seval, push_cast, *] <;> rfl), by (simp only [seval, push_cast, *] <;> rfl), by (simp only [seval, push_cast, *] <;> rfl), by (simp only [seval, push_cast, *] <;> rfl), ⟨rfl⟩⟩)) ?_
    clear hin1
    rintro ex ρ' H2 ⟨rfl, ⟨rfl, h2⟩ | ⟨rfl, h2, h3, h9⟩⟩ hf
    case inr =>
      replace hR := hR.out
      have he : regErrR n i p = 5 := by unfold regErrR; rw [if_neg (by simp [hN]), if_pos h9]
      rw [he, if_pos (by decide)] at hR
      replace hR : Kp (((i : Int), (5 : Int)) = R) := ⟨hR⟩
      clear he h9 hin2
      repeat' first
       | (apply z50 (id := 17) (ord := [0, 1, 2, 3, 4, 5, 6, 7, 8]) <;> first | kernel_rfl | skip)
       | (apply z50 (id := 22) (ord := [0, 1, 2, 3, 4, 5, 6, 7, 8]) <;> first | kernel_rfl | skip)
       | (apply z51 (id := 26) (ord := [0, 2, 3, 1, 4, 5, 6, 7, 8, 9]) (ps := [(2, 3)]) <;> first | kernel_rfl | skip)
       | (apply z50 (id := 35) (ord := [0, 1, 2, 3, 4, 5, 6, 7, 8, 9]) <;> first | kernel_rfl | skip)
       | (refine zs ?_; repeat' first | apply zs0 | apply zs2 | (intro hc; try have hq := dq hc)) | fail
      exact ⟨_, rfl, .inr ⟨rfl, by rw [← hR.out]; (simp only [seval, push_cast, *] <;> rfl), by rw [← hR.out]; (simp only [seval, push_cast, *] <;> rfl), by rw [← hR.out]; simp⟩⟩
    have f1 := hf 1 rfl
    have f6 := hf 6 rfl
    have f7 := hf 7 rfl
    simp only [seval, push_cast] at f1 f6 f7
    rw [h1] at f1
    rw [h6] at f6
    clear hf h1 h6
    repeat' first
     | (apply z50 (id := 17) (ord := [0, 1, 2, 3, 4, 5, 6, 7, 8]) <;> first | kernel_rfl | skip)
     | (apply z50 (id := 22) (ord := [0, 1, 2, 3, 4, 5, 6, 7, 8]) <;> first | kernel_rfl | skip)
     | (apply z51 (id := 26) (ord := [0, 2, 3, 1, 4, 5, 6, 7, 8, 9]) (ps := [(2, 3)]) <;> first | kernel_rfl | skip)
     | (apply z50 (id := 35) (ord := [0, 1, 2, 3, 4, 5, 6, 7, 8, 9]) <;> first | kernel_rfl | skip)
     | (refine zs ?_; repeat' first | apply zs0 | apply zs2 | (intro hc; try have hq := dq hc)) | fail
    refine lp_then (lp_any (c := loopAt Tryz.f15 2) rfl (hin2 _ _ _ (by omega) ⟨rfl, by (simp only [seval, push_cast, *] <;> rfl), by (simp only [seval, push_cast, *] <;> rfl), by (simp only [seval, push_cast, *] <;> rfl), by (simp only [seval, push_cast, *] <;> rfl), ⟨rfl⟩⟩)) ?_
    clear hin2
    rintro ex ρ2 H2 ⟨rfl, ⟨rfl, h22⟩ | ⟨rfl, h22, h23, h29⟩⟩ hf
    case inr =>
      replace hR := hR.out
      have he : regErrR n i p = 5 := by unfold regErrR; rw [if_neg (by simp [hN]), if_neg (by simp only [h2]; decide), if_pos h29]
      rw [he, if_pos (by decide)] at hR
      replace hR : Kp (((i : Int), (5 : Int)) = R) := ⟨hR⟩
      clear he h29
      repeat' first
       | (apply z50 (id := 17) (ord := [0, 1, 2, 3, 4, 5, 6, 7, 8]) <;> first | kernel_rfl | skip)
       | (apply z50 (id := 22) (ord := [0, 1, 2, 3, 4, 5, 6, 7, 8]) <;> first | kernel_rfl | skip)
       | (apply z51 (id := 26) (ord := [0, 2, 3, 1, 4, 5, 6, 7, 8, 9]) (ps := [(2, 3)]) <;> first | kernel_rfl | skip)
       | (apply z50 (id := 35) (ord := [0, 1, 2, 3, 4, 5, 6, 7, 8, 9]) <;> first | kernel_rfl | skip)
       | (refine zs ?_; repeat' first | apply zs0 | apply zs2 | (intro hc; try have hq := dq hc)) | fail
      exact ⟨_, rfl, .inr ⟨rfl, by rw [← hR.out]; (simp only [seval, push_cast, *] <;> rfl), by rw [← hR.out]; (simp only [seval, push_cast, *] <;> rfl), by rw [← hR.out]; simp⟩⟩
    have g1 := hf 1 rfl
    have g6 := hf 6 rfl
    have g7 := hf 7 rfl
    simp only [seval, push_cast] at g1 g6 g7
    rw [f1] at g1
    rw [f6] at g6
    rw [f7] at g7
    clear hf f1 f6 f7
    replace hR := hR.out
    cases hW : isW p.width with
    | false =>
      have he : regErrR n i p = 2 := by unfold regErrR; rw [if_neg (by simp [hN]), if_neg (by simp only [h2]; decide), if_neg (by simp only [h22]; decide), hW]; rfl
      rw [he, if_pos (by decide)] at hR
      replace hR : Kp (((i : Int), (2 : Int)) = R) := ⟨hR⟩
      unfold isW at hW
      clear he h2 h22
      repeat' first
       | (apply z50 (id := 17) (ord := [0, 1, 2, 3, 4, 5, 6, 7, 8]) <;> first | kernel_rfl | skip)
       | (apply z50 (id := 22) (ord := [0, 1, 2, 3, 4, 5, 6, 7, 8]) <;> first | kernel_rfl | skip)
       | (apply z51 (id := 26) (ord := [0, 2, 3, 1, 4, 5, 6, 7, 8, 9]) (ps := [(2, 3)]) <;> first | kernel_rfl | skip)
       | (apply z50 (id := 35) (ord := [0, 1, 2, 3, 4, 5, 6, 7, 8, 9]) <;> first | kernel_rfl | skip)
       | (refine zs ?_; repeat' first | apply zs0 | apply zs2 | (intro hc; try have hq := dq hc)) | fail
      exact ⟨_, rfl, .inr ⟨rfl, by rw [← hR.out]; (simp only [seval, push_cast, *] <;> rfl), by rw [← hR.out]; (simp only [seval, push_cast, *] <;> rfl), by rw [← hR.out]; simp⟩⟩
    | true =>
      have hw0 : 0 ≤ p.width := by simp only [isW, Bool.and_eq_true, decide_eq_true_eq] at hW; omega
      have hfit := fun bs H => bs_fits bs H p.init p.width hw0
      cases hF : fitsN p.init p.width with
      | false =>
        have he : regErrR n i p = 2 := by unfold regErrR; rw [if_neg (by simp [hN]), if_neg (by simp only [h2]; decide), if_neg (by simp only [h22]; decide), hW, hF]; rfl
        rw [he, if_pos (by decide)] at hR
        replace hR : Kp (((i : Int), (2 : Int)) = R) := ⟨hR⟩
        unfold isW at hW
        clear he h2 h22
        repeat' first
         | (apply z50 (id := 17) (ord := [0, 1, 2, 3, 4, 5, 6, 7, 8]) <;> first | kernel_rfl | skip)
         | (apply z50 (id := 22) (ord := [0, 1, 2, 3, 4, 5, 6, 7, 8]) <;> first | kernel_rfl | skip)
         | (apply z51 (id := 26) (ord := [0, 2, 3, 1, 4, 5, 6, 7, 8, 9]) (ps := [(2, 3)]) <;> first | kernel_rfl | skip)
         | (apply z50 (id := 35) (ord := [0, 1, 2, 3, 4, 5, 6, 7, 8, 9]) <;> first | kernel_rfl | skip)
         | (refine zs ?_; repeat' first | apply zs0 | apply zs2 | (intro hc; try have hq := dq hc)) | fail
        exact ⟨_, rfl, .inr ⟨rfl, by rw [← hR.out]; (simp only [seval, push_cast, *] <;> rfl), by rw [← hR.out]; (simp only [seval, push_cast, *] <;> rfl), by rw [← hR.out]; simp⟩⟩
      | true =>
        have he : regErrR n i p = 0 := by unfold regErrR; rw [if_neg (by simp [hN]), if_neg (by simp only [h2]; decide), if_neg (by simp only [h22]; decide), hW, hF]; rfl
        rw [he, if_neg (by decide)] at hR
        replace hR := Kp.mk hR
        unfold isW at hW
        clear he h2 h22
        repeat' first
         | (apply z50 (id := 17) (ord := [0, 1, 2, 3, 4, 5, 6, 7, 8]) <;> first | kernel_rfl | skip)
         | (apply z50 (id := 22) (ord := [0, 1, 2, 3, 4, 5, 6, 7, 8]) <;> first | kernel_rfl | skip)
         | (apply z51 (id := 26) (ord := [0, 2, 3, 1, 4, 5, 6, 7, 8, 9]) (ps := [(2, 3)]) <;> first | kernel_rfl | skip)
         | (apply z50 (id := 35) (ord := [0, 1, 2, 3, 4, 5, 6, 7, 8, 9]) <;> first | kernel_rfl | skip)
         | (refine zs ?_; repeat' first | apply zs0 | apply zs2 | (intro hc; try have hq := dq hc)) | fail
        exact ⟨_, rfl, by (simp only [seval, push_cast, *] <;> rfl), by (simp only [seval, push_cast, *] <;> rfl), hR⟩
  · rintro ρ H' ⟨junk, rfl, h1, h6, hR⟩
    replace hR := hR.out
    rw [List.drop_length, eachP] at hR
    replace hR : Kp ((0, 0) = R) := ⟨hR⟩
    clear hs
    conv => arg 3; whnf
    repeat' first
     | (apply z50 (id := 17) (ord := [0, 1, 2, 3, 4, 5, 6, 7, 8]) <;> first | kernel_rfl | skip)
     | (apply z50 (id := 22) (ord := [0, 1, 2, 3, 4, 5, 6, 7, 8]) <;> first | kernel_rfl | skip)
     | (apply z51 (id := 26) (ord := [0, 2, 3, 1, 4, 5, 6, 7, 8, 9]) (ps := [(2, 3)]) <;> first | kernel_rfl | skip)
     | (apply z50 (id := 35) (ord := [0, 1, 2, 3, 4, 5, 6, 7, 8, 9]) <;> first | kernel_rfl | skip)
     | (refine zs ?_; repeat' first | apply zs0 | apply zs2 | (intro hc; try have hq := dq hc)) | fail
    exact ⟨_, rfl, .inl ⟨rfl, hR.out.symm⟩⟩

end Go.E
/- Contracts of the references' base, in E: NetErr. Own work. -/
namespace Go.E
open Go.Proofs
set_option maxRecDepth 100000
set_option maxHeartbeats 4000000

theorem ne_regs2 (bs : List Nat) (H : Heap) (n : Netl) (hS : Small n) (R : Int × Int) :
    ∀ i ρ H', i ≤ n.regs.length → (∃ junk, H' = H ++ .cells (cellsNetl n) :: junk ∧ ρ 1 = .ptr H.length 0 ∧ ρ 12 = .int .i64 i ∧ Kp (eachP (regErr2S n) i (n.regs.drop i) = R)) →
      Lp X ⟨155, bs⟩ (loopAt Tryz.f15 3) ρ H' fun ex ρ' H' => ∃ junk, H' = H ++ .cells (cellsNetl n) :: junk ∧ ((ex = .exit 6 ∧ R = (0, 0) ∧ ρ' 1 = .ptr H.length 0) ∨ (ex = .ret ∧ ρ' 2 = .int .i64 R.1 ∧ ρ' 3 = .int .i64 R.2 ∧ R.2 ≠ 0)) := by
  have hr := hS.regs
  have hn := hS.nodes
  clear hS
  refine loop_up ?_ ?_
  · rintro i ρ H' hi ⟨junk, rfl, h1, h6, hR⟩
    have hget : n.regs[i]? = some n.regs[i] := by simp [hi]
    have hw := add1 i n.regs.length hi (by omega)
    replace hR := hR.out
    rw [drop_cons hget, eachP] at hR
    generalize n.regs[i] = p at hget hR
    have hic := fun bs H => bs_isCond bs H n.nodes p.enable (by omega)
    have hin := fun bs H => bs_isNode bs H n.nodes p.next (by omega)
    have e1 : isNodeN n p.enable = isNodeL n.nodes p.enable := rfl
    have e2 : widthAt n p.enable = widthL n.nodes p.enable := rfl
    have e3 : isNodeN n p.next = isNodeL n.nodes p.next := rfl
    have e4 : widthAt n p.next = widthL n.nodes p.next := rfl
    have fin9 : regErr2S n i p = 9 → (isNodeL n.nodes p.enable && decide (widthL n.nodes p.enable = 1)) = false ∨ isNodeL n.nodes p.next = false →
        Ev X ⟨155, bs⟩ (loopAt Tryz.f15 3) ρ (H ++ .cells (cellsNetl n) :: junk) (roundQ (fun ρ H' => ∃ junk, H' = H ++ .cells (cellsNetl n) :: junk ∧ ρ 1 = .ptr H.length 0 ∧ ρ 12 = .int .i64 ((i + 1 : Nat) : Int) ∧ Kp (eachP (regErr2S n) (i + 1) (n.regs.drop (i + 1)) = R))
          fun ex ρ' H' => ∃ junk, H' = H ++ .cells (cellsNetl n) :: junk ∧ ((ex = .exit 6 ∧ R = (0, 0) ∧ ρ' 1 = .ptr H.length 0) ∨ (ex = .ret ∧ ρ' 2 = .int .i64 R.1 ∧ ρ' 3 = .int .i64 R.2 ∧ R.2 ≠ 0))) := by
      intro he hor
      rw [he, if_pos (by decide)] at hR
      replace hR : Kp (((i : Int), (9 : Int)) = R) := ⟨hR⟩
      clear he e1 e2 e3 e4
      cases hc1 : (isNodeL n.nodes p.enable && decide (widthL n.nodes p.enable = 1)) with
      | false =>
        clear hor
        conv => arg 3; whnf
        repeat' first
         | (apply z50 (id := 17) (ord := [0, 1, 2, 3, 4, 5, 6, 7, 8]) <;> first | kernel_rfl | skip)
         | (apply z50 (id := 22) (ord := [0, 1, 2, 3, 4, 5, 6, 7, 8]) <;> first | kernel_rfl | skip)
         | (apply z51 (id := 26) (ord := [0, 2, 3, 1, 4, 5, 6, 7, 8, 9]) (ps := [(2, 3)]) <;> first | kernel_rfl | skip)
         | (apply z50 (id := 35) (ord := [0, 1, 2, 3, 4, 5, 6, 7, 8, 9]) <;> first | kernel_rfl | skip)
         | (refine zs ?_; repeat' first | apply zs0 | apply zs2 | (intro hc; try have hq := dq hc)) | fail
        exact ⟨_, rfl, .inr ⟨rfl, by rw [← hR.out]; (simp only [seval, push_cast, *] <;> rfl), by rw [← hR.out]; (simp only [seval, push_cast, *] <;> rfl), by rw [← hR.out]; simp⟩⟩
      | true =>
        have hc2 : isNodeL n.nodes p.next = false := hor.resolve_left (by rw [hc1]; simp)
        clear hor
        conv => arg 3; whnf
        repeat' first
         | (apply z50 (id := 17) (ord := [0, 1, 2, 3, 4, 5, 6, 7, 8]) <;> first | kernel_rfl | skip)
         | (apply z50 (id := 22) (ord := [0, 1, 2, 3, 4, 5, 6, 7, 8]) <;> first | kernel_rfl | skip)
         | (apply z51 (id := 26) (ord := [0, 2, 3, 1, 4, 5, 6, 7, 8, 9]) (ps := [(2, 3)]) <;> first | kernel_rfl | skip)
         | (apply z50 (id := 35) (ord := [0, 1, 2, 3, 4, 5, 6, 7, 8, 9]) <;> first | kernel_rfl | skip)
         | (refine zs ?_; repeat' first | apply zs0 | apply zs2 | (intro hc; try have hq := dq hc)) | fail
        exact ⟨_, rfl, .inr ⟨rfl, by rw [← hR.out]; (simp only [seval, push_cast, *] <;> rfl), by rw [← hR.out]; (simp only [seval, push_cast, *] <;> rfl), by rw [← hR.out]; simp⟩⟩
    cases c1 : isNodeL n.nodes p.enable with
    | false => exact fin9 (by unfold regErr2S; rw [e1, c1]; rfl) (.inl (by rw [c1]; rfl))
    | true =>
    by_cases c2 : widthL n.nodes p.enable = 1
    case neg => exact fin9 (by unfold regErr2S; rw [e1, c1, if_neg (by simp), e2, if_pos c2]) (.inl (by rw [c1, decide_eq_false c2]; rfl))
    cases c3 : isNodeL n.nodes p.next with
    | false => exact fin9 (by unfold regErr2S; rw [e1, c1, if_neg (by simp), e2, if_neg (by simpa using c2), e3, c3]; rfl) (.inr c3)
    | true =>
    have hcc : (isNodeL n.nodes p.enable && decide (widthL n.nodes p.enable = 1)) = true := by rw [c1, decide_eq_true c2]; rfl
    rw [hcc] at hic
    rw [c3] at hin
    obtain ⟨m, hm, hlt⟩ : ∃ m : Nat, p.next = m ∧ m < n.nodes.length := by
      simp only [isNodeL, Bool.and_eq_true, decide_eq_true_eq] at c3
      exact ⟨p.next.toNat, by omega, by omega⟩
    have hgm : n.nodes[m]? = some n.nodes[m] := by simp [hlt]
    have hwm : widthL n.nodes p.next = n.nodes[m].width := by simp [widthL, hm, hgm]
    generalize n.nodes[m] = y at hgm hwm
    have he : regErr2S n i p = if y.width = p.width then 0 else 25 := by unfold regErr2S; rw [e1, c1, if_neg (by simp), e2, if_neg (by simpa using c2), e3, c3, if_neg (by simp), e4, hwm]
    rw [hm] at hin
    clear fin9 e1 e2 e3 e4 hcc c1 c2 c3 hwm
    by_cases hy : y.width = p.width
    · rw [he, if_pos hy, if_neg (by decide)] at hR
      replace hR := Kp.mk hR
      clear he
      conv => arg 3; whnf
      repeat' first
       | (apply z50 (id := 17) (ord := [0, 1, 2, 3, 4, 5, 6, 7, 8]) <;> first | kernel_rfl | skip)
       | (apply z50 (id := 22) (ord := [0, 1, 2, 3, 4, 5, 6, 7, 8]) <;> first | kernel_rfl | skip)
       | (apply z51 (id := 26) (ord := [0, 2, 3, 1, 4, 5, 6, 7, 8, 9]) (ps := [(2, 3)]) <;> first | kernel_rfl | skip)
       | (apply z50 (id := 35) (ord := [0, 1, 2, 3, 4, 5, 6, 7, 8, 9]) <;> first | kernel_rfl | skip)
       | (refine zs ?_; repeat' first | apply zs0 | apply zs2 | (intro hc; try have hq := dq hc)) | fail
      exact ⟨_, rfl, by (simp only [seval, push_cast, *] <;> rfl), by (simp only [seval, push_cast, *] <;> rfl), hR⟩
    · rw [he, if_neg hy, if_pos (by decide)] at hR
      replace hR : Kp (((i : Int), (25 : Int)) = R) := ⟨hR⟩
      clear he
      conv => arg 3; whnf
      repeat' first
       | (apply z50 (id := 17) (ord := [0, 1, 2, 3, 4, 5, 6, 7, 8]) <;> first | kernel_rfl | skip)
       | (apply z50 (id := 22) (ord := [0, 1, 2, 3, 4, 5, 6, 7, 8]) <;> first | kernel_rfl | skip)
       | (apply z51 (id := 26) (ord := [0, 2, 3, 1, 4, 5, 6, 7, 8, 9]) (ps := [(2, 3)]) <;> first | kernel_rfl | skip)
       | (apply z50 (id := 35) (ord := [0, 1, 2, 3, 4, 5, 6, 7, 8, 9]) <;> first | kernel_rfl | skip)
       | (refine zs ?_; repeat' first | apply zs0 | apply zs2 | (intro hc; try have hq := dq hc)) | fail
      exact ⟨_, rfl, .inr ⟨rfl, by rw [← hR.out]; (simp only [seval, push_cast, *] <;> rfl), by rw [← hR.out]; (simp only [seval, push_cast, *] <;> rfl), by rw [← hR.out]; simp⟩⟩
  · rintro ρ H' ⟨junk, rfl, h1, h6, hR⟩
    replace hR := hR.out
    rw [List.drop_length, eachP] at hR
    replace hR : Kp ((0, 0) = R) := ⟨hR⟩
    conv => arg 3; whnf
    repeat' first
     | (apply z50 (id := 17) (ord := [0, 1, 2, 3, 4, 5, 6, 7, 8]) <;> first | kernel_rfl | skip)
     | (apply z50 (id := 22) (ord := [0, 1, 2, 3, 4, 5, 6, 7, 8]) <;> first | kernel_rfl | skip)
     | (apply z51 (id := 26) (ord := [0, 2, 3, 1, 4, 5, 6, 7, 8, 9]) (ps := [(2, 3)]) <;> first | kernel_rfl | skip)
     | (apply z50 (id := 35) (ord := [0, 1, 2, 3, 4, 5, 6, 7, 8, 9]) <;> first | kernel_rfl | skip)
     | (refine zs ?_; repeat' first | apply zs0 | apply zs2 | (intro hc; try have hq := dq hc)) | fail
    exact ⟨_, rfl, .inl ⟨rfl, hR.out.symm, by (simp only [seval, push_cast, *] <;> rfl)⟩⟩

theorem bs_netErr (bs : List Nat) (H : Heap) (n : Netl) (hS : Small n) : callw X bs 15 [encNetl n] H = some (.tuple [.int .i64 (netErrR n).1, .int .i64 (netErrR n).2], H) := by
  refine call_at (rs := [.tmp 2, .tmp 3]) (N := 155) (fn := Tryz.f15) xk15 xf15 rfl rfl rfl (by simp only [seval, push_cast, List.map_cons, List.map_nil, V.norm, norm1]; rfl) ?_
  have h1 := fun bs H => bs_isName bs H n.name (by have := hS.name; omega)
  have h2 := fun bs H => bs_portsErr bs H n.inputs (by have := hS.inputs; omega) (fun p hp => by have := hS.inn p hp; omega)
  have h3 := fun bs H => bs_netLeaves bs H n hS.inputs hS.regs
  have h4 := fun bs H => bs_nodesErr bs H (leavesN n) n.nodes (by have := hS.inputs; have := hS.regs; simp [leavesN]; omega) (by have := hS.nodes; omega) (fun x hx => by have := hS.args x hx; omega)
  have h5 := fun bs H => bs_outsErr bs H n.nodes n.outs (by have := hS.nodes; omega) (by have := hS.outs; omega) (fun p hp => by have := hS.otn p hp; omega)
  have l1 := fun bs ρ H' => ne_regs bs H n hS (eachP (regErrR n) 0 n.regs) 0 ρ H' (by omega)
  have l2 := fun bs ρ H' => ne_regs2 bs H n hS (eachP (regErr2S n) 0 n.regs) 0 ρ H' (by omega)
  have hwp : IntKind.i64.wrap ((n.inputs.length : Int) + n.regs.length) = (n.inputs.length : Int) + n.regs.length := by have := hS.inputs; have := hS.regs; rw [wrap64] <;> omega
  simp only [encNetl, cellsNetl] at h3
  clear hS
  unfold netErrR
  cases hN : isNameS n.name with
  | false =>
    rw [if_pos rfl]
    clear l1 l2
    repeat' first
     | (apply z50 (id := 17) (ord := [0, 1, 2, 3, 4, 5, 6, 7, 8]) <;> first | kernel_rfl | skip)
     | (apply z50 (id := 22) (ord := [0, 1, 2, 3, 4, 5, 6, 7, 8]) <;> first | kernel_rfl | skip)
     | (apply z51 (id := 26) (ord := [0, 2, 3, 1, 4, 5, 6, 7, 8, 9]) (ps := [(2, 3)]) <;> first | kernel_rfl | skip)
     | (apply z50 (id := 35) (ord := [0, 1, 2, 3, 4, 5, 6, 7, 8, 9]) <;> first | kernel_rfl | skip)
     | (refine zs ?_; repeat' first | apply zs0 | apply zs2 | (intro hc; try have hq := dq hc)) | fail
  | true =>
  rw [if_neg (by simp)]
  by_cases hP : (portsErrR n.inputs).2 = 0
  case neg =>
    rw [if_pos hP]
    clear l1 l2
    repeat' first
     | (apply z50 (id := 17) (ord := [0, 1, 2, 3, 4, 5, 6, 7, 8]) <;> first | kernel_rfl | skip)
     | (apply z50 (id := 22) (ord := [0, 1, 2, 3, 4, 5, 6, 7, 8]) <;> first | kernel_rfl | skip)
     | (apply z51 (id := 26) (ord := [0, 2, 3, 1, 4, 5, 6, 7, 8, 9]) (ps := [(2, 3)]) <;> first | kernel_rfl | skip)
     | (apply z50 (id := 35) (ord := [0, 1, 2, 3, 4, 5, 6, 7, 8, 9]) <;> first | kernel_rfl | skip)
     | (refine zs ?_; repeat' first | apply zs0 | apply zs2 | (intro hc; try have hq := dq hc)) | fail
  rw [if_neg (by simpa using hP)]
  by_cases h40 : 40 < n.inputs.length + n.regs.length
  case pos =>
    rw [if_pos h40]
    have d : (40 : Int) < (n.inputs.length : Int) + n.regs.length := by omega
    clear l1 l2
    repeat' first
     | (apply z50 (id := 17) (ord := [0, 1, 2, 3, 4, 5, 6, 7, 8]) <;> first | kernel_rfl | skip)
     | (apply z50 (id := 22) (ord := [0, 1, 2, 3, 4, 5, 6, 7, 8]) <;> first | kernel_rfl | skip)
     | (apply z51 (id := 26) (ord := [0, 2, 3, 1, 4, 5, 6, 7, 8, 9]) (ps := [(2, 3)]) <;> first | kernel_rfl | skip)
     | (apply z50 (id := 35) (ord := [0, 1, 2, 3, 4, 5, 6, 7, 8, 9]) <;> first | kernel_rfl | skip)
     | (refine zs ?_; repeat' first | apply zs0 | apply zs2 | (intro hc; try have hq := dq hc)) | fail
  rw [if_neg h40]
  have d : decide ((40 : Int) < (n.inputs.length : Int) + n.regs.length) = false := decide_eq_false (by omega)
  repeat' first
   | (apply z50 (id := 17) (ord := [0, 1, 2, 3, 4, 5, 6, 7, 8]) <;> first | kernel_rfl | skip)
   | (apply z50 (id := 22) (ord := [0, 1, 2, 3, 4, 5, 6, 7, 8]) <;> first | kernel_rfl | skip)
   | (apply z51 (id := 26) (ord := [0, 2, 3, 1, 4, 5, 6, 7, 8, 9]) (ps := [(2, 3)]) <;> first | kernel_rfl | skip)
   | (apply z50 (id := 35) (ord := [0, 1, 2, 3, 4, 5, 6, 7, 8, 9]) <;> first | kernel_rfl | skip)
   | (refine zs ?_; repeat' first | apply zs0 | apply zs2 | (intro hc; try have hq := dq hc)) | fail
  refine lp_then (lp_any (c := loopAt Tryz.f15 0) rfl (l1 _ _ _ ⟨[], rfl, by (simp only [seval, push_cast, *] <;> rfl), by (simp only [seval, push_cast, *] <;> rfl), ⟨rfl⟩⟩)) ?_
  clear l1
  rintro ex ρ' H2 ⟨junk, rfl, ⟨rfl, g2⟩ | ⟨rfl, g2, g3, g4⟩⟩ hf
  case inr =>
    rw [if_pos g4]
    clear l2 g4
    repeat' first
     | (apply z50 (id := 17) (ord := [0, 1, 2, 3, 4, 5, 6, 7, 8]) <;> first | kernel_rfl | skip)
     | (apply z50 (id := 22) (ord := [0, 1, 2, 3, 4, 5, 6, 7, 8]) <;> first | kernel_rfl | skip)
     | (apply z51 (id := 26) (ord := [0, 2, 3, 1, 4, 5, 6, 7, 8, 9]) (ps := [(2, 3)]) <;> first | kernel_rfl | skip)
     | (apply z50 (id := 35) (ord := [0, 1, 2, 3, 4, 5, 6, 7, 8, 9]) <;> first | kernel_rfl | skip)
     | (refine zs ?_; repeat' first | apply zs0 | apply zs2 | (intro hc; try have hq := dq hc)) | fail
  have f1 := hf 1 rfl
  simp only [seval, push_cast] at f1
  rw [g2, if_neg (by decide)]
  clear hf g2
  by_cases hM : (nodesErrR (leavesN n) n.nodes).2 = 0
  case neg =>
    rw [if_pos hM]
    clear l2
    repeat' first
     | (apply z50 (id := 17) (ord := [0, 1, 2, 3, 4, 5, 6, 7, 8]) <;> first | kernel_rfl | skip)
     | (apply z50 (id := 22) (ord := [0, 1, 2, 3, 4, 5, 6, 7, 8]) <;> first | kernel_rfl | skip)
     | (apply z51 (id := 26) (ord := [0, 2, 3, 1, 4, 5, 6, 7, 8, 9]) (ps := [(2, 3)]) <;> first | kernel_rfl | skip)
     | (apply z50 (id := 35) (ord := [0, 1, 2, 3, 4, 5, 6, 7, 8, 9]) <;> first | kernel_rfl | skip)
     | (refine zs ?_; repeat' first | apply zs0 | apply zs2 | (intro hc; try have hq := dq hc)) | fail
  rw [if_neg (by simpa using hM)]
  repeat' first
   | (apply z50 (id := 17) (ord := [0, 1, 2, 3, 4, 5, 6, 7, 8]) <;> first | kernel_rfl | skip)
   | (apply z50 (id := 22) (ord := [0, 1, 2, 3, 4, 5, 6, 7, 8]) <;> first | kernel_rfl | skip)
   | (apply z51 (id := 26) (ord := [0, 2, 3, 1, 4, 5, 6, 7, 8, 9]) (ps := [(2, 3)]) <;> first | kernel_rfl | skip)
   | (apply z50 (id := 35) (ord := [0, 1, 2, 3, 4, 5, 6, 7, 8, 9]) <;> first | kernel_rfl | skip)
   | (refine zs ?_; repeat' first | apply zs0 | apply zs2 | (intro hc; try have hq := dq hc)) | fail
  refine lp_then (lp_any (c := loopAt Tryz.f15 3) rfl (l2 _ _ _ ⟨junk, rfl, by (simp only [seval, push_cast, *] <;> rfl), by (simp only [seval, push_cast, *] <;> rfl), ⟨rfl⟩⟩)) ?_
  clear l2
  rintro ex ρ' H2 ⟨junk, rfl, ⟨rfl, g2, g1⟩ | ⟨rfl, g2, g3, g4⟩⟩ hf
  case inr =>
    rw [if_pos g4]
    clear g4
    repeat' first
     | (apply z50 (id := 17) (ord := [0, 1, 2, 3, 4, 5, 6, 7, 8]) <;> first | kernel_rfl | skip)
     | (apply z50 (id := 22) (ord := [0, 1, 2, 3, 4, 5, 6, 7, 8]) <;> first | kernel_rfl | skip)
     | (apply z51 (id := 26) (ord := [0, 2, 3, 1, 4, 5, 6, 7, 8, 9]) (ps := [(2, 3)]) <;> first | kernel_rfl | skip)
     | (apply z50 (id := 35) (ord := [0, 1, 2, 3, 4, 5, 6, 7, 8, 9]) <;> first | kernel_rfl | skip)
     | (refine zs ?_; repeat' first | apply zs0 | apply zs2 | (intro hc; try have hq := dq hc)) | fail
  rw [g2, if_neg (by decide)]
  clear hf g2
  repeat' first
   | (apply z50 (id := 17) (ord := [0, 1, 2, 3, 4, 5, 6, 7, 8]) <;> first | kernel_rfl | skip)
   | (apply z50 (id := 22) (ord := [0, 1, 2, 3, 4, 5, 6, 7, 8]) <;> first | kernel_rfl | skip)
   | (apply z51 (id := 26) (ord := [0, 2, 3, 1, 4, 5, 6, 7, 8, 9]) (ps := [(2, 3)]) <;> first | kernel_rfl | skip)
   | (apply z50 (id := 35) (ord := [0, 1, 2, 3, 4, 5, 6, 7, 8, 9]) <;> first | kernel_rfl | skip)
   | (refine zs ?_; repeat' first | apply zs0 | apply zs2 | (intro hc; try have hq := dq hc)) | fail

end Go.E
/- Contracts of the references' base, in E: copies, comparisons. Own work. -/
namespace Go.E
open Go.Proofs
set_option maxRecDepth 100000
set_option maxHeartbeats 4000000

theorem bs_copyInts (bs : List Nat) (H : Heap) (l : List Int) (hl : l.length ≤ 1000000) : callw X bs 20 [.list (l.map (.int .i64))] H = some (.list (l.map (.int .i64)), H) := by
  refine call_at (rs := [.tmp 2]) (N := 6) (fn := Tryz.f20) xk20 xf20 rfl rfl rfl (by simp only [seval, push_cast, List.map_cons, List.map_nil, V.norm, norm1]; rfl) ?_
  have h := room_of (k := 8) hl (by omega)
  all_goals try (refine zs ?_; repeat' first | apply zs0 | apply zs2 | (intro hc; try have hq := dq hc))

theorem bs_copyPorts (bs : List Nat) (H : Heap) (l : List Port) (hl : l.length ≤ 1000000) : callw X bs 77 [.list (l.map encPort)] H = some (.list (l.map encPort), H) := by
  refine call_at (rs := [.tmp 2]) (N := 6) (fn := Tryz.f77) xk77 xf77 rfl rfl rfl (by simp only [seval, push_cast, List.map_cons, List.map_nil, V.norm, norm1]; rfl) ?_
  have h := room_of (k := 24) hl (by omega)
  all_goals try (refine zs ?_; repeat' first | apply zs0 | apply zs2 | (intro hc; try have hq := dq hc))

theorem bs_copyOutputs (bs : List Nat) (H : Heap) (l : List Outp) (hl : l.length ≤ 1000000) : callw X bs 79 [.list (l.map encOutp)] H = some (.list (l.map encOutp), H) := by
  refine call_at (rs := [.tmp 2]) (N := 6) (fn := Tryz.f79) xk79 xf79 rfl rfl rfl (by simp only [seval, push_cast, List.map_cons, List.map_nil, V.norm, norm1]; rfl) ?_
  have h := room_of (k := 24) hl (by omega)
  all_goals try (refine zs ?_; repeat' first | apply zs0 | apply zs2 | (intro hc; try have hq := dq hc))

theorem bs_netResets (bs : List Nat) (H : Heap) (n : Netl) (hr : n.regs.length ≤ 1000) : callw X bs 17 [encNetl n] H = some (.list (n.regs.map (fun r : Reg => .int .i64 r.init)), H) := by
  refine call_at (rs := [.tmp 2]) (N := 26) (fn := Tryz.f17) xk17 xf17 rfl rfl rfl (by simp only [seval, push_cast, List.map_cons, List.map_nil, V.norm, norm1]; rfl) ?_
  have key : ∀ (t : HObj) (bs : List Nat) i ρ H', i ≤ n.regs.length → (H' = H ++ [.cells (cellsNetl n), t, .arr (fill (fun r : Reg => .int .i64 r.init) (.int .i64 0) n.regs i) 0] ∧ ρ 1 = .ptr H.length 0 ∧ ρ 3 = .ref 1 (H.length + 2) 0 0 n.regs.length ∧ ρ 4 = .int .i64 i) →
      Lp X ⟨26, bs⟩ (loopAt Tryz.f17 0) ρ H' fun ex ρ' H' => H' = H ++ [.cells (cellsNetl n), t, .arr (n.regs.map (fun r : Reg => .int .i64 r.init)) 0] ∧ ρ' 3 = .ref 1 (H.length + 2) 0 0 n.regs.length ∧ ex = .exit 0 := by
    intro t bs
    refine loop_up ?_ ?_
    · rintro i ρ H' hlt ⟨rfl, h1, h3, h4⟩
      have hget : n.regs[i]? = some n.regs[i] := by simp [hlt]
      have hw := add1 i n.regs.length hlt (by omega)
      have hg := fill_get (fun r : Reg => .int .i64 r.init) (.int .i64 0) n.regs i hlt
      have hs := fill_set (fun r : Reg => .int .i64 r.init) (.int .i64 0) n.regs i n.regs[i] hget
      generalize n.regs[i] = p at hget hs
      conv => arg 3; whnf
      all_goals try (refine zs ?_; repeat' first | apply zs0 | apply zs2 | (intro hc; try have hq := dq hc))
      exact ⟨by simp only [cellsNetl], by (simp only [seval, push_cast, *] <;> rfl), by (simp only [seval, push_cast, *] <;> rfl), by (simp only [seval, push_cast, *] <;> rfl)⟩
    · rintro ρ H' ⟨rfl, h1, h3, h4⟩
      rw [fill_end]
      conv => arg 3; whnf
      all_goals try (refine zs ?_; repeat' first | apply zs0 | apply zs2 | (intro hc; try have hq := dq hc))
      exact ⟨by simp only [cellsNetl], by (simp only [seval, push_cast, *] <;> rfl), rfl⟩
  have h1 := room_of (n := n.regs.length) (k := 8) (by omega) (by omega)
  have h2 := room_int (n := n.regs.length) (by omega)
  have h3 := fill_0 (fun r : Reg => .int .i64 r.init) (.int .i64 0) n.regs
  replace h3 : Kp (fill (fun r : Reg => .int .i64 r.init) (.int .i64 0) n.regs 0 = List.replicate n.regs.length (.int .i64 0)) := ⟨h3⟩
  all_goals try (refine zs ?_; repeat' first | apply zs0 | apply zs2 | (intro hc; try have hq := dq hc))
  refine lp_then (lp_any (c := loopAt Tryz.f17 0) rfl (key _ _ 0 _ _ (by omega) ⟨by rw [h3.out]; rfl, by (simp only [seval, push_cast, *] <;> rfl), by (simp only [seval, push_cast, *] <;> rfl), by (simp only [seval, push_cast, *] <;> rfl)⟩)) ?_
  rintro ex ρ' H' ⟨rfl, f3, rfl⟩ hf
  all_goals try (refine zs ?_; repeat' first | apply zs0 | apply zs2 | (intro hc; try have hq := dq hc))

theorem bs_ints (bs : List Nat) (H : Heap) (a b : List Int) (ha : a.length ≤ 1000000) (hb : b.length ≤ 1000000) : callw X bs 16 [.list (a.map (.int .i64)), .list (b.map (.int .i64))] H = some (.bool (decide (a = b)), H) := by
  refine call_at (rs := [.tmp 4]) (N := 26) (fn := Tryz.f16) xk16 xf16 rfl rfl rfl (by simp only [seval, push_cast, List.map_cons, List.map_nil, V.norm, norm1]; rfl) ?_
  rcases Classical.em (a.length = b.length) with hab | hab
  · have key : ∀ (bs : List Nat) i ρ H', i ≤ a.length → (H' = H ∧ ρ 0 = .list (a.map (.int .i64)) ∧ ρ 1 = .list (b.map (.int .i64)) ∧ ρ 5 = .int .i64 i ∧ Kp (a.take i = b.take i)) →
      Lp X ⟨26, bs⟩ (loopAt Tryz.f16 0) ρ H' fun ex ρ' H' => H' = H ∧ ((a = b ∧ ex = .exit 0) ∨ (a ≠ b ∧ ρ' 4 = .bool false ∧ ex = .ret)) := by
      intro bs
      refine loop_up ?_ ?_
      · rintro i ρ H' hlt ⟨rfl, h0, h1, h5, hk⟩
        have hget : a[i]? = some a[i] := by simp [hlt]
        have hgetb : b[i]? = some b[i] := by simp [hab ▸ hlt]
        have hw := add1 i a.length hlt (by omega)
        have hn := take_step hget hgetb hk.out
        generalize a[i] = x at hget hn
        generalize b[i] = y at hgetb hn
        rcases Classical.em (x = y) with hxy | hxy
        · have hk2 := Kp.mk (hn.1 hxy)
          conv => arg 3; whnf
          repeat' first
           | (apply z50 (id := 6) (ord := [0, 1, 2, 3, 4, 5, 6, 7, 8]) <;> first | kernel_rfl | skip)
           | (refine zs ?_; repeat' first | apply zs0 | apply zs2 | (intro hc; try have hq := dq hc)) | fail
          exact ⟨by (simp only [seval, push_cast, *] <;> rfl), by (simp only [seval, push_cast, *] <;> rfl), by (simp only [seval, push_cast, *] <;> rfl), by (simp only [seval, push_cast, *] <;> rfl), hk2⟩
        · have hk2 := Kp.mk (hn.2 hxy)
          conv => arg 3; whnf
          repeat' first
           | (apply z50 (id := 6) (ord := [0, 1, 2, 3, 4, 5, 6, 7, 8]) <;> first | kernel_rfl | skip)
           | (refine zs ?_; repeat' first | apply zs0 | apply zs2 | (intro hc; try have hq := dq hc)) | fail
          exact ⟨by (simp only [seval, push_cast, *] <;> rfl), .inr ⟨hk2.out, by (simp only [seval, push_cast, *] <;> rfl), rfl⟩⟩
      · rintro ρ H' ⟨rfl, h0, h1, h5, hk⟩
        have hk2 : Kp (a = b) := ⟨by have := hk.out; rw [hab, List.take_length, ← hab, List.take_length] at this; exact this⟩
        conv => arg 3; whnf
        repeat' first
         | (apply z50 (id := 6) (ord := [0, 1, 2, 3, 4, 5, 6, 7, 8]) <;> first | kernel_rfl | skip)
         | (refine zs ?_; repeat' first | apply zs0 | apply zs2 | (intro hc; try have hq := dq hc)) | fail
        exact ⟨by (simp only [seval, push_cast, *] <;> rfl), .inl ⟨hk2.out, rfl⟩⟩
    repeat' first
     | (apply z50 (id := 6) (ord := [0, 1, 2, 3, 4, 5, 6, 7, 8]) <;> first | kernel_rfl | skip)
     | (refine zs ?_; repeat' first | apply zs0 | apply zs2 | (intro hc; try have hq := dq hc)) | fail
    refine lp_then (lp_any (c := loopAt Tryz.f16 0) rfl (key _ 0 _ _ (by omega) ⟨rfl, by (simp only [seval, push_cast, *] <;> rfl), by (simp only [seval, push_cast, *] <;> rfl), by (simp only [seval, push_cast, *] <;> rfl), ⟨rfl⟩⟩)) ?_
    rintro ex ρ' H' ⟨rfl, ⟨he, rfl⟩ | ⟨he, f4, rfl⟩⟩ hf
    · clear key
      repeat' first
       | (apply z50 (id := 6) (ord := [0, 1, 2, 3, 4, 5, 6, 7, 8]) <;> first | kernel_rfl | skip)
       | (refine zs ?_; repeat' first | apply zs0 | apply zs2 | (intro hc; try have hq := dq hc)) | fail
    · clear key
      repeat' first
       | (apply z50 (id := 6) (ord := [0, 1, 2, 3, 4, 5, 6, 7, 8]) <;> first | kernel_rfl | skip)
       | (refine zs ?_; repeat' first | apply zs0 | apply zs2 | (intro hc; try have hq := dq hc)) | fail
  · have hne : ¬ a = b := fun h => hab (h ▸ rfl)
    repeat' first
     | (apply z50 (id := 6) (ord := [0, 1, 2, 3, 4, 5, 6, 7, 8]) <;> first | kernel_rfl | skip)
     | (refine zs ?_; repeat' first | apply zs0 | apply zs2 | (intro hc; try have hq := dq hc)) | fail

end Go.E
/- Contracts of the references' base, in E: CopyNodes, CopyNetlist. Own work. -/
namespace Go.E
open Go.Proofs
set_option maxRecDepth 100000
set_option maxHeartbeats 4000000

theorem bs_copyNodes (bs : List Nat) (H : Heap) (l : List Node) (hl : l.length ≤ 1000) (ha : ∀ x ∈ l, x.args.length ≤ 1000000) : callw X bs 78 [.list (l.map encNode)] H = some (.list (l.map encNode), H) := by
  refine call_at (rs := [.tmp 2]) (N := 32) (fn := Tryz.f78) xk78 xf78 rfl rfl rfl (by simp only [seval, push_cast, List.map_cons, List.map_nil, V.norm, norm1]; rfl) ?_
  have key : ∀ (t : HObj) (bs : List Nat) i ρ H', i ≤ l.length → (H' = H ++ [t, .arr (fill encNode (.agg [.int .i64 0, .int .i64 0, .nilS, .int .i64 0]) l i) 0] ∧ ρ 0 = .list (l.map encNode) ∧ ρ 3 = .ref 4 (H.length + 1) 0 0 l.length ∧ ρ 4 = .int .i64 i) →
      Lp X ⟨32, H.length :: bs⟩ (loopAt Tryz.f78 0) ρ H' fun ex ρ' H' => H' = H ++ [t, .arr (l.map encNode) 0] ∧ ρ' 3 = .ref 4 (H.length + 1) 0 0 l.length ∧ ex = .exit 0 := by
    intro t bs
    refine loop_up ?_ ?_
    · rintro i ρ H' hlt ⟨rfl, h0, h3, h4⟩
      have hget : l[i]? = some l[i] := by simp [hlt]
      have hw := add1 i l.length hlt (by omega)
      have hz := fill_get encNode (.agg [.int .i64 0, .int .i64 0, .nilS, .int .i64 0]) l i hlt
      have hs := fill_set encNode (.agg [.int .i64 0, .int .i64 0, .nilS, .int .i64 0]) l i l[i] hget
      have hg1 := fill_get1 encNode (.agg [.int .i64 0, .int .i64 0, .nilS, .int .i64 0]) l i l[i] hget
      have hs1 := fill_set1 encNode (.agg [.int .i64 0, .int .i64 0, .nilS, .int .i64 0]) l i l[i] hget
      have hal := ha l[i] (List.getElem_mem hlt)
      have hc := fun bs H => bs_copyInts bs H l[i].args hal
      generalize l[i] = p at hget hs hg1 hs1 hal hc
      simp only [encNode, encInts] at hs hg1 hs1
      conv => arg 3; whnf
      all_goals try (refine zs ?_; repeat' first | apply zs0 | apply zs2 | (intro hc; try have hq := dq hc))
      exact ⟨by (simp only [seval, push_cast, *] <;> rfl), by (simp only [seval, push_cast, *] <;> rfl), by (simp only [seval, push_cast, *] <;> rfl), by (simp only [seval, push_cast, *] <;> rfl)⟩
    · rintro ρ H' ⟨rfl, h0, h3, h4⟩
      rw [fill_end]
      conv => arg 3; whnf
      all_goals try (refine zs ?_; repeat' first | apply zs0 | apply zs2 | (intro hc; try have hq := dq hc))
      exact ⟨by (simp only [seval, push_cast, *] <;> rfl), by (simp only [seval, push_cast, *] <;> rfl), rfl⟩
  have h1 := room_of (n := l.length) (k := 48) (by omega) (by omega)
  have h2 := room_int (n := l.length) (by omega)
  have h3 : Kp (fill encNode (.agg [.int .i64 0, .int .i64 0, .nilS, .int .i64 0]) l 0 = List.replicate l.length (.agg [.int .i64 0, .int .i64 0, .nilS, .int .i64 0])) := ⟨fill_0 _ _ _⟩
  all_goals try (refine zs ?_; repeat' first | apply zs0 | apply zs2 | (intro hc; try have hq := dq hc))
  refine lp_then (lp_any (c := loopAt Tryz.f78 0) rfl (key _ _ 0 _ _ (by omega) ⟨by rw [h3.out], by (simp only [seval, push_cast, *] <;> rfl), by (simp only [seval, push_cast, *] <;> rfl), by (simp only [seval, push_cast, *] <;> rfl)⟩)) ?_
  rintro ex ρ' H' ⟨rfl, f3, rfl⟩ hf
  all_goals try (refine zs ?_; repeat' first | apply zs0 | apply zs2 | (intro hc; try have hq := dq hc))

theorem bs_copyNet (bs : List Nat) (H : Heap) (n : Netl) (hS : Small n) : callw X bs 13 [encNetl n] H = some (encNetl n, H) := by
  refine call_at (rs := [.cell 2 27]) (N := 21) (fn := Tryz.f13) xk13 xf13 rfl rfl rfl (by simp only [seval, push_cast, List.map_cons, List.map_nil, V.norm, norm1]; rfl) ?_
  obtain ⟨s1, s2, s3, s4, s5, s6, s7, s8, s9⟩ := hS
  have c1 := fun bs H => bs_copyPorts bs H n.inputs (by omega)
  have c2 := fun bs H => bs_copyNodes bs H n.nodes s4 (fun x hx => Nat.le_trans (s9 x hx) (by omega))
  have c3 := fun bs H => bs_copyOutputs bs H n.outs (by omega)
  have h1 := room_of (n := n.regs.length) (k := 48) (by omega) (by omega)
  clear s6 s7 s8 s9
  repeat' first
   | (apply z51 (id := 1) (ord := [0, 1, 3, 4, 6, 7, 2, 9, 5, 8, 10, 11, 12, 13, 14]) (ps := [(3, 6), (5, 6), (5, 8)]) <;> first | kernel_rfl | skip)
   | (refine zs ?_; repeat' first | apply zs0 | apply zs2 | (intro hc; try have hq := dq hc)) | fail

end Go.E
/- The law's 'few', in E. Own work. -/
namespace Go.E
open Go.Proofs
set_option maxRecDepth 100000
set_option maxHeartbeats 4000000

def fewSizes (n : Netl) : Prop := n.name.size ≤ 40 ∧ n.inputs.length ≤ 45 ∧ n.regs.length ≤ 45 ∧ (n.nodes.length ≤ 60 ∨ 400 < n.nodes.length) ∧ n.nodes.length ≤ 405 ∧ n.outs.length ≤ 20
theorem la_few_big (bs : List Nat) (H : Heap) (n : Netl) (hb : ¬ fewSizes n) : callw X bs 11 [encNetl n] H = some (.bool false, H) := by
  refine call_at (rs := [.tmp 2]) (N := 107) (fn := Tryz.f11) xk11 xf11 rfl rfl rfl (by simp only [seval, push_cast, List.map_cons, List.map_nil, V.norm, norm1]; rfl) ?_
  unfold fewSizes at hb
  rcases Classical.em (n.name.size ≤ 40) with a1 | a1
  · have b1 : ¬ ((n.name.size : Int) > 40) := by omega
    rcases Classical.em (n.inputs.length ≤ 45) with a2 | a2
    · have b2 : ¬ ((n.inputs.length : Int) > 45) := by omega
      rcases Classical.em (n.regs.length ≤ 45) with a3 | a3
      · have b3 : ¬ ((n.regs.length : Int) > 45) := by omega
        rcases Classical.em (n.nodes.length > 60) with a4 | a4
        · have b4 : (n.nodes.length : Int) > 60 := by omega
          rcases Classical.em (n.nodes.length ≤ 400) with a5 | a5
          · have b5 : (n.nodes.length : Int) ≤ 400 := by omega
            clear hb
            all_goals try (refine zs ?_; repeat' first | apply zs0 | apply zs2 | (intro hc; try have hq := dq hc))
          · have b5 : ¬ (n.nodes.length : Int) ≤ 400 := by omega
            rcases Classical.em (n.nodes.length ≤ 405) with a6 | a6
            · have b6 : ¬ (n.nodes.length : Int) > 405 := by omega
              have b7 : (n.outs.length : Int) > 20 := by omega
              clear hb
              all_goals try (refine zs ?_; repeat' first | apply zs0 | apply zs2 | (intro hc; try have hq := dq hc))
            · have b6 : (n.nodes.length : Int) > 405 := by omega
              clear hb
              all_goals try (refine zs ?_; repeat' first | apply zs0 | apply zs2 | (intro hc; try have hq := dq hc))
        · have b4 : ¬ (n.nodes.length : Int) > 60 := by omega
          have b6 : ¬ (n.nodes.length : Int) > 405 := by omega
          have b7 : (n.outs.length : Int) > 20 := by omega
          clear hb
          all_goals try (refine zs ?_; repeat' first | apply zs0 | apply zs2 | (intro hc; try have hq := dq hc))
      · have b3 : (n.regs.length : Int) > 45 := by omega
        clear hb
        all_goals try (refine zs ?_; repeat' first | apply zs0 | apply zs2 | (intro hc; try have hq := dq hc))
    · have b2 : (n.inputs.length : Int) > 45 := by omega
      clear hb
      all_goals try (refine zs ?_; repeat' first | apply zs0 | apply zs2 | (intro hc; try have hq := dq hc))
  · have b1 : (n.name.size : Int) > 40 := by omega
    clear hb
    all_goals try (refine zs ?_; repeat' first | apply zs0 | apply zs2 | (intro hc; try have hq := dq hc))

end Go.E
/- The law's 'few', in E: its loops. Own work. -/
namespace Go.E
open Go.Proofs
set_option maxRecDepth 100000
set_option maxHeartbeats 4000000

theorem few_l0 (n : Netl) (H : Heap) (R : Bool) (hl : n.nodes.length ≤ 1000) : ∀ (bs : List Nat) i ρ H', i ≤ n.nodes.length → (H' = H ++ [.cells (cellsNetl n)] ∧ ρ 1 = .ptr H.length 0 ∧ ρ 3 = .int .i64 i ∧ Kp ((n.nodes.drop i).all (fun x => decide (x.args.length ≤ 5)) = R)) →
    Lp X ⟨107, bs⟩ (loopAt Tryz.f11 0) ρ H' fun ex ρ' H' => H' = H ++ [.cells (cellsNetl n)] ∧ ((R = true ∧ ex = .exit 0) ∨ (R = false ∧ ρ' 2 = .bool false ∧ ex = .ret)) := by
  intro bs
  refine loop_up ?_ ?_
  · rintro i ρ H' hlt ⟨rfl, h1, h3, hk⟩
    have hget : n.nodes[i]? = some n.nodes[i] := by simp [hlt]
    have hw := add1 i n.nodes.length hlt (by omega)
    have hd := drop_cons hget
    replace hk := hk.out
    rw [hd, List.all_cons] at hk
    clear hd
    generalize n.nodes[i] = p at hget hk
    rcases Classical.em (p.args.length ≤ 5) with a | a
    · have hk2 : Kp ((n.nodes.drop (i + 1)).all (fun x => decide (x.args.length ≤ 5)) = R) := ⟨by simpa only [decide_eq_true a, Bool.true_and] using hk⟩
      have b : ¬ (p.args.length : Int) > 5 := by omega
      clear hk
      conv => arg 3; whnf
      all_goals try (refine zs ?_; repeat' first | apply zs0 | apply zs2 | (intro hc; try have hq := dq hc))
      exact ⟨by simp only [cellsNetl], by (simp only [seval, push_cast, *] <;> rfl), by (simp only [seval, push_cast, *] <;> rfl), hk2⟩
    · have hk2 : Kp (R = false) := ⟨by simpa only [decide_eq_false a, Bool.false_and] using hk.symm⟩
      have b : (p.args.length : Int) > 5 := by omega
      clear hk
      conv => arg 3; whnf
      all_goals try (refine zs ?_; repeat' first | apply zs0 | apply zs2 | (intro hc; try have hq := dq hc))
      exact ⟨by simp only [cellsNetl], .inr ⟨hk2.out, by (simp only [seval, push_cast, *] <;> rfl), rfl⟩⟩
  · rintro ρ H' ⟨rfl, h1, h3, hk⟩
    have hk2 : Kp (R = true) := ⟨by have := hk.out; simpa using this.symm⟩
    clear hk
    conv => arg 3; whnf
    all_goals try (refine zs ?_; repeat' first | apply zs0 | apply zs2 | (intro hc; try have hq := dq hc))
    exact ⟨by simp only [cellsNetl], .inl ⟨hk2.out, rfl⟩⟩

theorem few_l1 (n : Netl) (H : Heap) (R : Bool) (hl : n.inputs.length ≤ 1000) : ∀ (bs : List Nat) i ρ H', i ≤ n.inputs.length → (H' = H ++ [.cells (cellsNetl n)] ∧ ρ 1 = .ptr H.length 0 ∧ ρ 4 = .int .i64 i ∧ Kp ((n.inputs.drop i).all (fun x => decide (x.name.size ≤ 40)) = R)) →
    Lp X ⟨107, bs⟩ (loopAt Tryz.f11 1) ρ H' fun ex ρ' H' => H' = H ++ [.cells (cellsNetl n)] ∧ ((R = true ∧ ex = .exit 2) ∨ (R = false ∧ ρ' 2 = .bool false ∧ ex = .ret)) := by
  intro bs
  refine loop_up ?_ ?_
  · rintro i ρ H' hlt ⟨rfl, h1, h3, hk⟩
    have hget : n.inputs[i]? = some n.inputs[i] := by simp [hlt]
    have hw := add1 i n.inputs.length hlt (by omega)
    have hd := drop_cons hget
    replace hk := hk.out
    rw [hd, List.all_cons] at hk
    clear hd
    generalize n.inputs[i] = p at hget hk
    rcases Classical.em (p.name.size ≤ 40) with a | a
    · have hk2 : Kp ((n.inputs.drop (i + 1)).all (fun x => decide (x.name.size ≤ 40)) = R) := ⟨by simpa only [decide_eq_true a, Bool.true_and] using hk⟩
      have b : ¬ (p.name.size : Int) > 40 := by omega
      clear hk
      conv => arg 3; whnf
      all_goals try (refine zs ?_; repeat' first | apply zs0 | apply zs2 | (intro hc; try have hq := dq hc))
      exact ⟨by simp only [cellsNetl], by (simp only [seval, push_cast, *] <;> rfl), by (simp only [seval, push_cast, *] <;> rfl), hk2⟩
    · have hk2 : Kp (R = false) := ⟨by simpa only [decide_eq_false a, Bool.false_and] using hk.symm⟩
      have b : (p.name.size : Int) > 40 := by omega
      clear hk
      conv => arg 3; whnf
      all_goals try (refine zs ?_; repeat' first | apply zs0 | apply zs2 | (intro hc; try have hq := dq hc))
      exact ⟨by simp only [cellsNetl], .inr ⟨hk2.out, by (simp only [seval, push_cast, *] <;> rfl), rfl⟩⟩
  · rintro ρ H' ⟨rfl, h1, h3, hk⟩
    have hk2 : Kp (R = true) := ⟨by have := hk.out; simpa using this.symm⟩
    clear hk
    conv => arg 3; whnf
    all_goals try (refine zs ?_; repeat' first | apply zs0 | apply zs2 | (intro hc; try have hq := dq hc))
    exact ⟨by simp only [cellsNetl], .inl ⟨hk2.out, rfl⟩⟩

theorem few_l2 (n : Netl) (H : Heap) (R : Bool) (hl : n.regs.length ≤ 1000) : ∀ (bs : List Nat) i ρ H', i ≤ n.regs.length → (H' = H ++ [.cells (cellsNetl n)] ∧ ρ 1 = .ptr H.length 0 ∧ ρ 5 = .int .i64 i ∧ Kp ((n.regs.drop i).all (fun x => decide (x.name.size ≤ 40)) = R)) →
    Lp X ⟨107, bs⟩ (loopAt Tryz.f11 2) ρ H' fun ex ρ' H' => H' = H ++ [.cells (cellsNetl n)] ∧ ((R = true ∧ ex = .exit 4) ∨ (R = false ∧ ρ' 2 = .bool false ∧ ex = .ret)) := by
  intro bs
  refine loop_up ?_ ?_
  · rintro i ρ H' hlt ⟨rfl, h1, h3, hk⟩
    have hget : n.regs[i]? = some n.regs[i] := by simp [hlt]
    have hw := add1 i n.regs.length hlt (by omega)
    have hd := drop_cons hget
    replace hk := hk.out
    rw [hd, List.all_cons] at hk
    clear hd
    generalize n.regs[i] = p at hget hk
    rcases Classical.em (p.name.size ≤ 40) with a | a
    · have hk2 : Kp ((n.regs.drop (i + 1)).all (fun x => decide (x.name.size ≤ 40)) = R) := ⟨by simpa only [decide_eq_true a, Bool.true_and] using hk⟩
      have b : ¬ (p.name.size : Int) > 40 := by omega
      clear hk
      conv => arg 3; whnf
      all_goals try (refine zs ?_; repeat' first | apply zs0 | apply zs2 | (intro hc; try have hq := dq hc))
      exact ⟨by simp only [cellsNetl], by (simp only [seval, push_cast, *] <;> rfl), by (simp only [seval, push_cast, *] <;> rfl), hk2⟩
    · have hk2 : Kp (R = false) := ⟨by simpa only [decide_eq_false a, Bool.false_and] using hk.symm⟩
      have b : (p.name.size : Int) > 40 := by omega
      clear hk
      conv => arg 3; whnf
      all_goals try (refine zs ?_; repeat' first | apply zs0 | apply zs2 | (intro hc; try have hq := dq hc))
      exact ⟨by simp only [cellsNetl], .inr ⟨hk2.out, by (simp only [seval, push_cast, *] <;> rfl), rfl⟩⟩
  · rintro ρ H' ⟨rfl, h1, h3, hk⟩
    have hk2 : Kp (R = true) := ⟨by have := hk.out; simpa using this.symm⟩
    clear hk
    conv => arg 3; whnf
    all_goals try (refine zs ?_; repeat' first | apply zs0 | apply zs2 | (intro hc; try have hq := dq hc))
    exact ⟨by simp only [cellsNetl], .inl ⟨hk2.out, rfl⟩⟩

theorem few_l3 (n : Netl) (H : Heap) (R : Bool) (hl : n.outs.length ≤ 1000) : ∀ (bs : List Nat) i ρ H', i ≤ n.outs.length → (H' = H ++ [.cells (cellsNetl n)] ∧ ρ 1 = .ptr H.length 0 ∧ ρ 6 = .int .i64 i ∧ Kp ((n.outs.drop i).all (fun x => decide (x.name.size ≤ 40)) = R)) →
    Lp X ⟨107, bs⟩ (loopAt Tryz.f11 3) ρ H' fun ex ρ' H' => H' = H ++ [.cells (cellsNetl n)] ∧ ((R = true ∧ ex = .exit 6) ∨ (R = false ∧ ρ' 2 = .bool false ∧ ex = .ret)) := by
  intro bs
  refine loop_up ?_ ?_
  · rintro i ρ H' hlt ⟨rfl, h1, h3, hk⟩
    have hget : n.outs[i]? = some n.outs[i] := by simp [hlt]
    have hw := add1 i n.outs.length hlt (by omega)
    have hd := drop_cons hget
    replace hk := hk.out
    rw [hd, List.all_cons] at hk
    clear hd
    generalize n.outs[i] = p at hget hk
    rcases Classical.em (p.name.size ≤ 40) with a | a
    · have hk2 : Kp ((n.outs.drop (i + 1)).all (fun x => decide (x.name.size ≤ 40)) = R) := ⟨by simpa only [decide_eq_true a, Bool.true_and] using hk⟩
      have b : ¬ (p.name.size : Int) > 40 := by omega
      clear hk
      conv => arg 3; whnf
      all_goals try (refine zs ?_; repeat' first | apply zs0 | apply zs2 | (intro hc; try have hq := dq hc))
      exact ⟨by simp only [cellsNetl], by (simp only [seval, push_cast, *] <;> rfl), by (simp only [seval, push_cast, *] <;> rfl), hk2⟩
    · have hk2 : Kp (R = false) := ⟨by simpa only [decide_eq_false a, Bool.false_and] using hk.symm⟩
      have b : (p.name.size : Int) > 40 := by omega
      clear hk
      conv => arg 3; whnf
      all_goals try (refine zs ?_; repeat' first | apply zs0 | apply zs2 | (intro hc; try have hq := dq hc))
      exact ⟨by simp only [cellsNetl], .inr ⟨hk2.out, by (simp only [seval, push_cast, *] <;> rfl), rfl⟩⟩
  · rintro ρ H' ⟨rfl, h1, h3, hk⟩
    have hk2 : Kp (R = true) := ⟨by have := hk.out; simpa using this.symm⟩
    clear hk
    conv => arg 3; whnf
    all_goals try (refine zs ?_; repeat' first | apply zs0 | apply zs2 | (intro hc; try have hq := dq hc))
    exact ⟨by simp only [cellsNetl], .inl ⟨hk2.out, rfl⟩⟩

def fewAll (n : Netl) : Bool := n.nodes.all (fun x => decide (x.args.length ≤ 5)) && (n.inputs.all (fun x => decide (x.name.size ≤ 40)) && (n.regs.all (fun x => decide (x.name.size ≤ 40)) && n.outs.all (fun x => decide (x.name.size ≤ 40))))
theorem la_few (bs : List Nat) (H : Heap) (n : Netl) (hb : fewSizes n) : callw X bs 11 [encNetl n] H = some (.bool (fewAll n), H) := by
  refine call_at (rs := [.tmp 2]) (N := 107) (fn := Tryz.f11) xk11 xf11 rfl rfl rfl (by simp only [seval, push_cast, List.map_cons, List.map_nil, V.norm, norm1]; rfl) ?_
  obtain ⟨a1, a2, a3, a4, a5, a6⟩ := hb
  have b1 : ¬ ((n.name.size : Int) > 40) := by omega
  have b2 : ¬ ((n.inputs.length : Int) > 45) := by omega
  have b3 : ¬ ((n.regs.length : Int) > 45) := by omega
  have b5 : ¬ (n.nodes.length : Int) > 405 := by omega
  have b6 : ¬ (n.outs.length : Int) > 20 := by omega
  rcases Classical.em (n.nodes.length > 60) with a7 | a7
  · have b4 : (n.nodes.length : Int) > 60 := by omega
    have b7 : ¬ (n.nodes.length : Int) ≤ 400 := by omega
    all_goals try (refine zs ?_; repeat' first | apply zs0 | apply zs2 | (intro hc; try have hq := dq hc))
    refine lp_then (lp_any (c := loopAt Tryz.f11 0) rfl (few_l0 n H _ (by omega) _ 0 _ _ (by omega) ⟨by simp only [cellsNetl], by (simp only [seval, push_cast, *] <;> rfl), by (simp only [seval, push_cast, *] <;> rfl), ⟨rfl⟩⟩)) ?_
    rintro ex ρ0 H' ⟨rfl, ⟨r0, rfl⟩ | ⟨r0, g0, rfl⟩⟩ hf0
    rotate_left
    · have e : fewAll n = false := by simp only [fewAll]; simp only [List.drop_zero] at *; simp [*]
      clear hf0
      all_goals try (refine zs ?_; repeat' first | apply zs0 | apply zs2 | (intro hc; try have hq := dq hc))
    have f0 := hf0 1 rfl
    simp only [seval, push_cast] at f0
    clear hf0
    all_goals try (refine zs ?_; repeat' first | apply zs0 | apply zs2 | (intro hc; try have hq := dq hc))
    refine lp_then (lp_any (c := loopAt Tryz.f11 1) rfl (few_l1 n H _ (by omega) _ 0 _ _ (by omega) ⟨by simp only [cellsNetl], by (simp only [seval, push_cast, *] <;> rfl), by (simp only [seval, push_cast, *] <;> rfl), ⟨rfl⟩⟩)) ?_
    rintro ex ρ1 H' ⟨rfl, ⟨r1, rfl⟩ | ⟨r1, g1, rfl⟩⟩ hf1
    rotate_left
    · have e : fewAll n = false := by simp only [fewAll]; simp only [List.drop_zero] at *; simp [*]
      clear hf1
      all_goals try (refine zs ?_; repeat' first | apply zs0 | apply zs2 | (intro hc; try have hq := dq hc))
    have f1 := hf1 1 rfl
    simp only [seval, push_cast] at f1
    clear hf1
    all_goals try (refine zs ?_; repeat' first | apply zs0 | apply zs2 | (intro hc; try have hq := dq hc))
    refine lp_then (lp_any (c := loopAt Tryz.f11 2) rfl (few_l2 n H _ (by omega) _ 0 _ _ (by omega) ⟨by simp only [cellsNetl], by (simp only [seval, push_cast, *] <;> rfl), by (simp only [seval, push_cast, *] <;> rfl), ⟨rfl⟩⟩)) ?_
    rintro ex ρ2 H' ⟨rfl, ⟨r2, rfl⟩ | ⟨r2, g2, rfl⟩⟩ hf2
    rotate_left
    · have e : fewAll n = false := by simp only [fewAll]; simp only [List.drop_zero] at *; simp [*]
      clear hf2
      all_goals try (refine zs ?_; repeat' first | apply zs0 | apply zs2 | (intro hc; try have hq := dq hc))
    have f2 := hf2 1 rfl
    simp only [seval, push_cast] at f2
    clear hf2
    all_goals try (refine zs ?_; repeat' first | apply zs0 | apply zs2 | (intro hc; try have hq := dq hc))
    refine lp_then (lp_any (c := loopAt Tryz.f11 3) rfl (few_l3 n H _ (by omega) _ 0 _ _ (by omega) ⟨by simp only [cellsNetl], by (simp only [seval, push_cast, *] <;> rfl), by (simp only [seval, push_cast, *] <;> rfl), ⟨rfl⟩⟩)) ?_
    rintro ex ρ3 H' ⟨rfl, ⟨r3, rfl⟩ | ⟨r3, g3, rfl⟩⟩ hf3
    rotate_left
    · have e : fewAll n = false := by simp only [fewAll]; simp only [List.drop_zero] at *; simp [*]
      clear hf3
      all_goals try (refine zs ?_; repeat' first | apply zs0 | apply zs2 | (intro hc; try have hq := dq hc))
    have f3 := hf3 1 rfl
    simp only [seval, push_cast] at f3
    have e : fewAll n = true := by simp only [fewAll]; simp only [List.drop_zero] at *; simp [*]
    clear hf3
    all_goals try (refine zs ?_; repeat' first | apply zs0 | apply zs2 | (intro hc; try have hq := dq hc))
  · have b4 : ¬ (n.nodes.length : Int) > 60 := by omega
    all_goals try (refine zs ?_; repeat' first | apply zs0 | apply zs2 | (intro hc; try have hq := dq hc))
    refine lp_then (lp_any (c := loopAt Tryz.f11 0) rfl (few_l0 n H _ (by omega) _ 0 _ _ (by omega) ⟨by simp only [cellsNetl], by (simp only [seval, push_cast, *] <;> rfl), by (simp only [seval, push_cast, *] <;> rfl), ⟨rfl⟩⟩)) ?_
    rintro ex ρ0 H' ⟨rfl, ⟨r0, rfl⟩ | ⟨r0, g0, rfl⟩⟩ hf0
    rotate_left
    · have e : fewAll n = false := by simp only [fewAll]; simp only [List.drop_zero] at *; simp [*]
      clear hf0
      all_goals try (refine zs ?_; repeat' first | apply zs0 | apply zs2 | (intro hc; try have hq := dq hc))
    have f0 := hf0 1 rfl
    simp only [seval, push_cast] at f0
    clear hf0
    all_goals try (refine zs ?_; repeat' first | apply zs0 | apply zs2 | (intro hc; try have hq := dq hc))
    refine lp_then (lp_any (c := loopAt Tryz.f11 1) rfl (few_l1 n H _ (by omega) _ 0 _ _ (by omega) ⟨by simp only [cellsNetl], by (simp only [seval, push_cast, *] <;> rfl), by (simp only [seval, push_cast, *] <;> rfl), ⟨rfl⟩⟩)) ?_
    rintro ex ρ1 H' ⟨rfl, ⟨r1, rfl⟩ | ⟨r1, g1, rfl⟩⟩ hf1
    rotate_left
    · have e : fewAll n = false := by simp only [fewAll]; simp only [List.drop_zero] at *; simp [*]
      clear hf1
      all_goals try (refine zs ?_; repeat' first | apply zs0 | apply zs2 | (intro hc; try have hq := dq hc))
    have f1 := hf1 1 rfl
    simp only [seval, push_cast] at f1
    clear hf1
    all_goals try (refine zs ?_; repeat' first | apply zs0 | apply zs2 | (intro hc; try have hq := dq hc))
    refine lp_then (lp_any (c := loopAt Tryz.f11 2) rfl (few_l2 n H _ (by omega) _ 0 _ _ (by omega) ⟨by simp only [cellsNetl], by (simp only [seval, push_cast, *] <;> rfl), by (simp only [seval, push_cast, *] <;> rfl), ⟨rfl⟩⟩)) ?_
    rintro ex ρ2 H' ⟨rfl, ⟨r2, rfl⟩ | ⟨r2, g2, rfl⟩⟩ hf2
    rotate_left
    · have e : fewAll n = false := by simp only [fewAll]; simp only [List.drop_zero] at *; simp [*]
      clear hf2
      all_goals try (refine zs ?_; repeat' first | apply zs0 | apply zs2 | (intro hc; try have hq := dq hc))
    have f2 := hf2 1 rfl
    simp only [seval, push_cast] at f2
    clear hf2
    all_goals try (refine zs ?_; repeat' first | apply zs0 | apply zs2 | (intro hc; try have hq := dq hc))
    refine lp_then (lp_any (c := loopAt Tryz.f11 3) rfl (few_l3 n H _ (by omega) _ 0 _ _ (by omega) ⟨by simp only [cellsNetl], by (simp only [seval, push_cast, *] <;> rfl), by (simp only [seval, push_cast, *] <;> rfl), ⟨rfl⟩⟩)) ?_
    rintro ex ρ3 H' ⟨rfl, ⟨r3, rfl⟩ | ⟨r3, g3, rfl⟩⟩ hf3
    rotate_left
    · have e : fewAll n = false := by simp only [fewAll]; simp only [List.drop_zero] at *; simp [*]
      clear hf3
      all_goals try (refine zs ?_; repeat' first | apply zs0 | apply zs2 | (intro hc; try have hq := dq hc))
    have f3 := hf3 1 rfl
    simp only [seval, push_cast] at f3
    have e : fewAll n = true := by simp only [fewAll]; simp only [List.drop_zero] at *; simp [*]
    clear hf3
    all_goals try (refine zs ?_; repeat' first | apply zs0 | apply zs2 | (intro hc; try have hq := dq hc))

end Go.E
