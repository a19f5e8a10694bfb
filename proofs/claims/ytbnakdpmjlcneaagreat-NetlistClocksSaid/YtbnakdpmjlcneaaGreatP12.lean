/- Plain law of chapter 22: which netlists are valid. Own work. -/
import Derived.Test.YtbnakdpmjlcneaaGreatP4
import Derived.Test.YtbnakdpmjlcneaaGreatP5
import Derived.Test.YtbnakdpmjlcneaaGreatP6
import Derived.Test.YtbnakdpmjlcneaaGreatP7
import Derived.Test.YtbnakdpmjlcneaaGreatP11
set_option linter.all false
namespace Go.E

theorem has_add (s t : ByteArray) : ∀ ns : List ByteArray, hasName s (addName t ns) = (decide (s = t) || hasName s ns)
  | [] => by simp [addName, hasName]
  | u :: r => by
    simp only [addName]
    by_cases h : t = u
    · subst h
      simp [hasName]
    · rw [if_neg h]
      simp only [hasName, has_add s t r]
      cases decide (s = u) <;> cases decide (s = t) <;> rfl

/-- each over names that are to be new: as the reference tells it. -/
theorem each_names {α : Type} (nm : α → ByteArray) (g : Nat → α → List ByteArray → Int × List ByteArray) (e : α → Int) (before : ByteArray → Bool)
    (hg : ∀ i x ns, g i x ns = (firstL [nameErr ns (nm x), e x], addName (nm x) ns)) (full : List α) (f : Nat → α → Int)
    (hf : ∀ i x, full[i]? = some x → f i x = if isNameS (nm x) = false then 4 else if ((full.take i).any (fun q => decide (nm q = nm x)) || before (nm x)) = true then 5 else e x) :
    ∀ (rest : List α) (i : Nat) (ns : List ByteArray), full.drop i = rest → (∀ s, hasName s ns = ((full.take i).any (fun q => decide (nm q = s)) || before s)) →
      (eachL g i rest ns).1 = eachP f i rest ∧ ((eachP f i rest).2 = 0 → ∀ s, hasName s (eachL g i rest ns).2 = (full.any (fun q => decide (nm q = s)) || before s))
  | [], i, ns, hd, hn => by
    refine ⟨rfl, fun _ s => ?_⟩
    have : full.take i = full := List.take_of_length_le (by simpa using hd)
    simp only [eachL, hn, this]
  | x :: r, i, ns, hd, hn => by
    have hget : full[i]? = some x := by
      have := congrArg List.head? hd
      simpa [List.head?_drop] using this
    have he : (g i x ns).1 = f i x := by
      rw [hg, hf i x hget]
      simp only [firstL, nameErr, hn]
      cases h1 : isNameS (nm x) <;> cases h2 : ((full.take i).any (fun q => decide (nm q = nm x)) || before (nm x)) <;> simp <;> exact fun h => h.symm
    have hs : (g i x ns).2 = addName (nm x) ns := by rw [hg]
    simp only [eachL, eachP, he, hs]
    by_cases h0 : f i x = 0
    · rw [if_neg (by simpa using h0), if_neg (by simpa using h0)]
      refine each_names nm g e before hg full f hf r (i + 1) _ ?_ (fun s => ?_)
      · rw [← List.drop_drop, hd]; rfl
      · rw [has_add, hn, List.take_add_one, hget]
        simp only [Option.toList_some, List.any_append, List.any_cons, List.any_nil, Bool.or_false]
        have : decide (s = nm x) = decide (nm x = s) := by simp only [decide_eq_decide]; exact eq_comm
        rw [this]
        cases decide (nm x = s) <;> cases (full.take i).any (fun q => decide (nm q = s)) <;> rfl
    · rw [if_pos h0, if_pos h0]
      exact ⟨rfl, fun h => absurd h h0⟩

theorem eachP_zero {α : Type} (g : Nat → α → Int) : ∀ (l : List α) (i : Nat), (eachP g i l).2 = 0 → eachP g i l = (0, 0)
  | [], _, _ => rfl
  | x :: r, i, h => by
    simp only [eachP] at h ⊢
    split at h
    · rename_i h0; exact absurd h h0
    · rename_i h0; rw [if_neg h0]; exact eachP_zero g r (i + 1) h

theorem ports_same (l : List Port) : (eachL portErrS 0 l []).1 = eachP (portErrR l) 0 l ∧ ((eachP (portErrR l) 0 l).2 = 0 → ∀ s, hasName s (eachL portErrS 0 l []).2 = l.any (fun q => decide (q.name = s))) := by
  have := each_names (fun p : Port => p.name) portErrS (fun p => if isW p.width = true then 0 else 2) (fun _ => false) (fun _ _ _ => rfl) l (portErrR l)
    (fun i x _ => by unfold portErrR; cases isW x.width <;> simp) l 0 [] rfl (fun s => rfl)
  simpa using this

theorem outs_same (n : Netl) : (eachL (outErrS n) 0 n.outs []).1 = eachP (outErrR n.nodes n.outs) 0 n.outs := by
  have := (each_names (fun p : Outp => p.name) (outErrS n) (fun p => if isNodeN n p.node = true then 0 else 9) (fun _ => false) (fun _ _ _ => rfl) n.outs (outErrR n.nodes n.outs)
    (fun i x _ => by unfold outErrR; rw [show isNodeN n x.node = isNodeL n.nodes x.node from rfl]; cases isNodeL n.nodes x.node <;> simp) n.outs 0 [] rfl (fun s => rfl)).1
  exact this

theorem regs_same (n : Netl) (ns : List ByteArray) (h : ∀ s, hasName s ns = n.inputs.any (fun q => decide (q.name = s))) : (eachL regErrS 0 n.regs ns).1 = eachP (regErrR n) 0 n.regs := by
  have := (each_names (fun p : Reg => p.name) regErrS (fun r => if (isW r.width && fitsN r.init r.width) = true then 0 else 2) (fun s => n.inputs.any (fun q => decide (q.name = s))) (fun _ _ _ => rfl) n.regs (regErrR n)
    (fun i x _ => by
      unfold regErrR
      cases (isW x.width && fitsN x.init x.width) <;> cases (n.regs.take i).any (fun q => decide (q.name = x.name)) <;> cases n.inputs.any (fun q => decide (q.name = x.name)) <;> simp) n.regs 0 ns rfl (fun s => by simp [h])).1
  exact this

theorem isW_all (n : Netl) (h1 : (eachP (portErrR n.inputs) 0 n.inputs).2 = 0) (h2 : (eachP (regErrR n) 0 n.regs).2 = 0) : (eachP (fun _ n => if isW n = true then (0 : Int) else 2) 0 (leavesN n)) = (0, 0) := by
  have key : ∀ {α : Type} (f : Nat → α → Int) (l : List α) (i : Nat), (eachP f i l).2 = 0 → ∀ j x, l[j]? = some x → f (i + j) x = 0 := by
    intro α f l
    induction l with
    | nil => intro i _ j x h; simp at h
    | cons y l ih =>
      intro i h j x hx
      simp only [eachP] at h
      split at h
      · rename_i h0; exact absurd h h0
      · rename_i h0
        cases j with
        | zero => simp at hx; subst hx; simpa using h0
        | succ j => have := ih (i + 1) h j x (by simpa using hx); rwa [show i + 1 + j = i + (j + 1) by omega] at this
  have key2 : ∀ (l : List Int) (i : Nat), (∀ w ∈ l, isW w = true) → eachP (fun _ n => if isW n = true then (0 : Int) else 2) i l = (0, 0) := by
    intro l
    induction l with
    | nil => intro i _; rfl
    | cons y l ih => intro i h; simp only [eachP, h y (by simp)]; simp; exact ih _ fun w hw => h w (by simp [hw])
  refine key2 _ _ fun w hw => ?_
  simp only [leavesN, List.mem_append, List.mem_map] at hw
  rcases hw with ⟨p, hp, rfl⟩ | ⟨r, hr, rfl⟩
  · obtain ⟨j, hj⟩ := List.getElem?_of_mem hp
    have := key _ _ _ h1 j p hj
    unfold portErrR at this
    cases hh : isW p.width with
    | true => rfl
    | false => rw [hh] at this; split at this <;> (try split at this) <;> simp_all
  · obtain ⟨j, hj⟩ := List.getElem?_of_mem hr
    have := key _ _ _ h2 j r hj
    unfold regErrR at this
    cases hh : isW r.width with
    | true => rfl
    | false => rw [hh] at this; split at this <;> (try split at this) <;> (try split at this) <;> simp_all

/-- P22.1: the program's answer is the reference's. -/
theorem checkNet_same (n : Netl) : checkNetS n = netErrR n := by
  unfold checkNetS netErrR
  obtain ⟨hp1, hp2⟩ := ports_same n.inputs
  have ho := outs_same n
  cases hN : isNameS n.name with
  | false => simp [firstP, firstL]
  | true =>
  simp only [firstP, firstL, hp1, ho, portsErrR]
  by_cases h12 : (n.inputs.length : Int) ≤ 12
  case neg => simp [h12, show 12 < n.inputs.length by omega]
  have h12' : ¬ 12 < n.inputs.length := by omega
  by_cases hP : (eachP (portErrR n.inputs) 0 n.inputs).2 = 0
  case neg => simp [h12, h12', hP]
  have hr := regs_same n _ (hp2 hP)
  by_cases h40 : (n.inputs.length : Int) + n.regs.length ≤ 40
  case neg => simp [h12, h12', hP, h40, show 40 < n.inputs.length + n.regs.length by omega]
  have h40' : ¬ 40 < n.inputs.length + n.regs.length := by omega
  by_cases hR : (eachP (regErrR n) 0 n.regs).2 = 0
  case neg => simp [h12, h12', hP, h40, h40', hr, hR]
  have hW := isW_all n hP hR
  have hC : checkNodesS (leavesN n) n.nodes = nodesErrR (leavesN n) n.nodes := by
    unfold checkNodesS nodesErrR
    rw [if_neg (by simp [leavesN]; omega), hW]
    simp
  by_cases hM : (nodesErrR (leavesN n) n.nodes).2 = 0
  case neg => simp [h12, h12', hP, h40, h40', hr, hR, hC, hM]
  by_cases hM2 : (eachP (regErr2S n) 0 n.regs).2 = 0
  case neg => simp [h12, h12', hP, h40, h40', hr, hR, hC, hM, hM2]
  by_cases h13 : (n.outs.length : Int) ≤ 12
  case neg => simp [h12, h12', hP, h40, h40', hr, hR, hC, hM, hM2, h13, outsErrR, show 12 < n.outs.length by omega]
  simp only [h12, h12', hP, h40, h40', hr, hR, hC, hM, hM2, h13, outsErrR, show ¬ 12 < n.outs.length by omega]
  by_cases hO : (eachP (outErrR n.nodes n.outs) 0 n.outs).2 = 0
  · simp [eachP_zero _ _ _ hO, hP]
  · simp [hP, hO]
end Go.E
/- What 'few' asks. Own work. -/
namespace Go.E
theorem small_of {n : Netl} (h : fewSizes n) (ha : fewAll n = true) : Small n := by
  obtain ⟨a1, a2, a3, a4, a5, a6⟩ := h
  simp only [fewAll, Bool.and_eq_true, List.all_eq_true, decide_eq_true_eq] at ha
  obtain ⟨b1, b2, b3, b4⟩ := ha
  exact ⟨by omega, by omega, by omega, by omega, by omega, fun p hp => by have := b2 p hp; omega, fun p hp => by have := b3 p hp; omega, fun p hp => by have := b4 p hp; omega, fun p hp => by have := b1 p hp; omega⟩
end Go.E
/- NetlistClocks, in E: the law answers true. Own work. -/
namespace Go.E
open Go.Proofs
set_option maxRecDepth 100000
set_option maxHeartbeats 8000000

theorem trL_row (n : Netl) (l : List (List Int)) : ∀ k, ∀ x ∈ trL n l k, x.length = n.outs.length
  | 0, x, h => by simp [trL] at h
  | k + 1, x, h => by
    rw [trL, List.mem_append, List.mem_singleton] at h
    rcases h with h | rfl
    · exact trL_row n l k x h
    · simp [trAt, stepN, outsS]
theorem stAt_len (n : Netl) (l : List (List Int)) : ∀ k, (stAt n l k).length = n.regs.length
  | 0 => by simp [stAt]
  | k + 1 => by rw [stAt]; exact nextL_len _ _ _ _
theorem stL_row (n : Netl) (l : List (List Int)) : ∀ k, ∀ x ∈ stL n l k, x.length = n.regs.length
  | 0, x, h => by
    rw [stL, List.mem_singleton] at h
    subst h; exact stAt_len n l 0
  | k + 1, x, h => by
    rw [stL, List.mem_append, List.mem_singleton] at h
    rcases h with h | rfl
    · exact stL_row n l k x h
    · exact stAt_len n l (k + 1)

theorem la_clocks (n : Netl) (l : List (List Int)) (st : List Int) : callw X [] 4 [encNetl n, .list (l.map encInts), .list (st.map (.int .i64))] [] = some (.bool true, []) := by
  refine call_at (rs := [.tmp 6]) (N := 163) (fn := Tryz.f4) xk4 xf4 rfl rfl rfl (by simp only [seval, push_cast, List.map_cons, List.map_nil, V.norm, norm1]; rfl) ?_
  have t0 := la_awake (cellsNetl n)
  simp only [cellsNetl] at t0
  by_cases h : fewSizes n
  case neg =>
    have t1 := fun bs H => la_few_big bs H n h
    simp only [encNetl, cellsNetl] at t1
    repeat' first
     | (apply z51 (id := 14) (ord := [0, 1, 3, 4, 2, 5, 6, 7]) (ps := [(2, 4)]) <;> first | kernel_rfl | skip)
     | (refine zs ?_; repeat' first | apply zs0 | apply zs2 | (intro hc; try have hq := dq hc)) | fail
  have t1 := fun bs H => la_few bs H n h
  simp only [encNetl, cellsNetl] at t1
  cases ha : fewAll n with
  | false =>
    rw [ha] at t1
    repeat' first
     | (apply z51 (id := 14) (ord := [0, 1, 3, 4, 2, 5, 6, 7]) (ps := [(2, 4)]) <;> first | kernel_rfl | skip)
     | (refine zs ?_; repeat' first | apply zs0 | apply zs2 | (intro hc; try have hq := dq hc)) | fail
  | true =>
  rw [ha] at t1
  have hS := small_of h ha
  have u1 := fun bs H => la_fewLists bs H l 62 (by omega)
  simp only [show ((62 : Nat) : Int) = 62 from rfl] at u1
  by_cases hq : l.length ≤ 62 ∧ l.all (fun x => decide (x.length ≤ 45)) = true
  case neg =>
    have hb : (decide (l.length ≤ 62) && l.all (fun x => decide (x.length ≤ 45))) = false := by
      cases hh : (decide (l.length ≤ 62) && l.all (fun x => decide (x.length ≤ 45))) with
      | false => rfl
      | true => exact absurd ⟨of_decide_eq_true (Bool.and_eq_true_iff.1 hh).1, (Bool.and_eq_true_iff.1 hh).2⟩ hq
    rw [hb] at u1
    clear h ha hS hq hb
    repeat' first
     | (apply z51 (id := 14) (ord := [0, 1, 3, 4, 2, 5, 6, 7]) (ps := [(2, 4)]) <;> first | kernel_rfl | skip)
     | (refine zs ?_; repeat' first | apply zs0 | apply zs2 | (intro hc; try have hq := dq hc)) | fail
  have hb : (decide (l.length ≤ 62) && l.all (fun x => decide (x.length ≤ 45))) = true := by rw [decide_eq_true hq.1, hq.2]; rfl
  rw [hb] at u1
  have hl6 : l.length ≤ 62 := hq.1
  have hll : ∀ x ∈ l, x.length ≤ 45 := fun x hx => of_decide_eq_true (List.all_eq_true.1 hq.2 x hx)
  clear h ha hq hb
  by_cases h60 : st.length ≤ 60
  case neg =>
    have d : decide ((st.length : Int) > 60) = true := decide_eq_true (by omega)
    clear hS hl6 hll h60
    repeat' first
     | (apply z51 (id := 14) (ord := [0, 1, 3, 4, 2, 5, 6, 7]) (ps := [(2, 4)]) <;> first | kernel_rfl | skip)
     | (refine zs ?_; repeat' first | apply zs0 | apply zs2 | (intro hc; try have hq := dq hc)) | fail
  have d60 : decide ((st.length : Int) > 60) = false := decide_eq_false (by omega)
  obtain ⟨fs, hfs⟩ : ∃ fs : List Int, (l = [] ∧ fs = []) ∨ l[0]? = some fs := by
    cases l with
    | nil => exact ⟨[], .inl ⟨rfl, rfl⟩⟩
    | cons x r => exact ⟨x, .inr rfl⟩
  have hfl : fs.length ≤ 45 := by
    rcases hfs with ⟨_, rfl⟩ | h
    · simp
    · exact hll fs (List.mem_of_getElem? h)
  have hll5 : ∀ x ∈ l, x.length ≤ 100000 := fun x hx => by have := hll x hx; omega
  have hc : checkNetS n = netErrR n := checkNet_same n
  have t2 := fun bs H => bs_copyNet bs H n hS
  have t3 := fun bs H => bs_copyInts bs H fs (by omega)
  have t4 := fun bs H => bs_copyInts bs H st (by omega)
  have t5 := fun bs H => bs_copyLists bs H l (by omega) hll5
  have t6 := fun bs H => nl_stepOf bs H n fs st hS (by omega) (by omega)
  have t7 := fun bs H => nl_traceOf bs H n l hS (by omega) hll5
  have t8 := fun bs H => nl_statesOf bs H n l hS (by omega) hll5
  have t9 := fun bs H => rf_err bs H n hS
  rw [← hc] at t9
  simp only [encNetl, cellsNetl] at t2 t6 t7 t8 t9
  by_cases he : (checkNetS n).2 = 0
  case neg =>
    have e1 : stepErrS n fs st = (checkNetS n).2 := if_neg he
    have e2 : runErrS n l = (checkNetS n).2 := if_neg he
    rw [e1] at t6
    rw [e2] at t7 t8
    simp only [if_neg he] at t6 t7 t8
    generalize (checkNetS n).2 = c at t6 t7 t8 t9 he
    clear e1 e2 hc hS hl6 hll hll5 h60
    rcases hfs with ⟨h, rfl⟩ | hg
    · have d0 : decide ((l.length : Int) > 0) = false := by rw [h]; rfl
      simp only [List.map_nil] at t3 t6
      clear h hfl
      repeat' first
       | (apply z51 (id := 14) (ord := [0, 1, 3, 4, 2, 5, 6, 7]) (ps := [(2, 4)]) <;> first | kernel_rfl | skip)
       | (refine zs ?_; repeat' first | apply zs0 | apply zs2 | (intro hc; try have hq := dq hc)) | fail
    · have d0 : decide ((l.length : Int) > 0) = true := by
        obtain ⟨hh, _⟩ := List.getElem?_eq_some_iff.1 hg
        exact decide_eq_true (by omega)
      clear hfl
      repeat' first
       | (apply z51 (id := 14) (ord := [0, 1, 3, 4, 2, 5, 6, 7]) (ps := [(2, 4)]) <;> first | kernel_rfl | skip)
       | (refine zs ?_; repeat' first | apply zs0 | apply zs2 | (intro hc; try have hq := dq hc)) | fail
  have hk := net_ok he
  have hw1 := fun (w : Int) hw => (show 0 ≤ w by have := inW_1 hk w hw; omega)
  have hw2 := fun (w : Int) hw => (show 0 ≤ w by have := rgW_1 hk w hw; omega)
  have e1 : stepErrS n fs st = firstL [inErrS n fs, stErrS n st] := if_pos he
  have e2 : runErrS n l = if l.length ≤ 60 then (eachP (fun _ x => inErrS n x) 0 l).2 else 8 := if_pos he
  have v1 := fun bs H => rf_seqErr bs H n l hS.inputs hS.regs (by omega) hll5 hw1
  have v2 := fun bs H => rf_inputsErr bs H n fs hS.inputs hS.regs (by omega) hw1
  have v3 := fun bs H => rf_stateErr bs H n st hS.inputs hS.regs (by omega) hw2
  have so := hS.outs
  have sr := hS.regs
  rw [← e2] at v1
  rw [he] at t9
  simp only [encNetl, cellsNetl] at v1 v2 v3
  have hrun : runErrS n l = 0 → ∀ bs H, callw X bs 28 [encNetl n, .list (l.map encInts)] H = some (.tuple [.list ((trL n l l.length).map encInts), .list ((stL n l l.length).map encInts)], H) := fun h bs H => by
    refine rf_trace bs H n l hS hk (by omega) ?_
    rw [e2] at h
    split at h
    · exact h
    · omega
  have hstep : inErrS n fs = 0 → stErrS n st = 0 → ∀ bs H, callw X bs 30 [encNetl n, .list (fs.map (.int .i64)), .list (st.map (.int .i64))] H = some (.tuple [.list ((stepN n fs st).1.map (.int .i64)), .list ((stepN n fs st).2.map (.int .i64))], H) := fun h1 h2 bs H =>
    bs_netStep bs H n fs st hS hk (leafOk_of hk h1 (regOk_of hk h2)) (regOk_of hk h2).1
  have w1 := fun bs H => bs_lists bs H (trL n l l.length) (trL n l l.length) (by rw [trL_len]; omega) (by rw [trL_len]; omega) (fun x hx => by rw [trL_row n l _ x hx]; omega) (fun x hx => by rw [trL_row n l _ x hx]; omega)
  have w2 := fun bs H => bs_lists bs H (stL n l l.length) (stL n l l.length) (by rw [stL_len]; omega) (by rw [stL_len]; omega) (fun x hx => by rw [stL_row n l _ x hx]; omega) (fun x hx => by rw [stL_row n l _ x hx]; omega)
  have w3 := fun bs H => bs_ints bs H (stepN n fs st).1 (stepN n fs st).1 (by simp [stepN, outsS]; omega) (by simp [stepN, outsS]; omega)
  have w4 := fun bs H => bs_ints bs H (stepN n fs st).2 (stepN n fs st).2 (by simp [stepN, nextL_len]; omega) (by simp [stepN, nextL_len]; omega)
  simp only [decide_true] at w1 w2 w3 w4
  simp only [encNetl, cellsNetl] at hrun hstep
  rw [e1, firstL_2] at t6
  generalize inErrS n fs = ei at t6 v2 hstep
  generalize stErrS n st = es at t6 v3 hstep
  generalize runErrS n l = er at t7 t8 v1 hrun
  generalize trL n l l.length = T at t7 hrun w1
  generalize stL n l l.length = S at t8 hrun w2
  generalize stepN n fs st = q at t6 hstep w3 w4
  clear e1 e2 hc he hS hl6 hll hll5 h60 hk hw1 hw2 so sr
  rcases hfs with ⟨h, rfl⟩ | hg
  · have d0 : decide ((l.length : Int) > 0) = false := by rw [h]; rfl
    simp only [List.map_nil] at t3 t6 v2 hstep
    clear h hfl
    rcases Classical.em (er = 0) with h0 | h0 <;> rcases Classical.em (ei = 0) with h1 | h1 <;> rcases Classical.em (es = 0) with h2 | h2
    all_goals simp only [h0, h1, h2, if_true, if_false, ne_eq, not_true_eq_false, not_false_eq_true, forall_const, forall_false] at t6 t7 t8 v1 v2 v3 hrun hstep
    all_goals
      repeat' first
       | (apply z51 (id := 14) (ord := [0, 1, 3, 4, 2, 5, 6, 7]) (ps := [(2, 4)]) <;> first | kernel_rfl | skip)
       | (refine zs ?_; repeat' first | apply zs0 | apply zs2 | (intro hc; try have hq := dq hc)) | fail
  · have d0 : decide ((l.length : Int) > 0) = true := by
      obtain ⟨hh, _⟩ := List.getElem?_eq_some_iff.1 hg
      exact decide_eq_true (by omega)
    clear hfl
    rcases Classical.em (er = 0) with h0 | h0 <;> rcases Classical.em (ei = 0) with h1 | h1 <;> rcases Classical.em (es = 0) with h2 | h2
    all_goals simp only [h0, h1, h2, if_true, if_false, ne_eq, not_true_eq_false, not_false_eq_true, forall_const, forall_false] at t6 t7 t8 v1 v2 v3 hrun hstep
    all_goals
      repeat' first
       | (apply z51 (id := 14) (ord := [0, 1, 3, 4, 2, 5, 6, 7]) (ps := [(2, 4)]) <;> first | kernel_rfl | skip)
       | (refine zs ?_; repeat' first | apply zs0 | apply zs2 | (intro hc; try have hq := dq hc)) | fail
end Go.E
