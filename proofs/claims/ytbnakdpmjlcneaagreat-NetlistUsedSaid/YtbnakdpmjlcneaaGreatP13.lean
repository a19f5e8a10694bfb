/- Plain law of chapter 22: which netlists are valid. Own work. -/
import Derived.Test.YtbnakdpmjlcneaaGreatP4
import Derived.Test.YtbnakdpmjlcneaaGreatP5
import Derived.Test.YtbnakdpmjlcneaaGreatP8
import Derived.Test.YtbnakdpmjlcneaaGreatP12
set_option linter.all false
namespace Go.E

theorem has_add (s t : ByteArray) : ∀ ns : List ByteArray, hasName s (addName t ns) = (decide (s = t) || hasName s ns)
  | [] => by simp [addName, hasName]
  | u :: r => by
    simp only [addName]
    by_cases h : t = u
    · subst h
      simp [hasName]
    · rw [if_neg h]
      simp only [hasName, has_add s t r]
      cases decide (s = u) <;> cases decide (s = t) <;> rfl

/-- each over names that are to be new: as the reference tells it. -/
theorem each_names {α : Type} (nm : α → ByteArray) (g : Nat → α → List ByteArray → Int × List ByteArray) (e : α → Int) (before : ByteArray → Bool)
    (hg : ∀ i x ns, g i x ns = (firstL [nameErr ns (nm x), e x], addName (nm x) ns)) (full : List α) (f : Nat → α → Int)
    (hf : ∀ i x, full[i]? = some x → f i x = if isNameS (nm x) = false then 4 else if ((full.take i).any (fun q => decide (nm q = nm x)) || before (nm x)) = true then 5 else e x) :
    ∀ (rest : List α) (i : Nat) (ns : List ByteArray), full.drop i = rest → (∀ s, hasName s ns = ((full.take i).any (fun q => decide (nm q = s)) || before s)) →
      (eachL g i rest ns).1 = eachP f i rest ∧ ((eachP f i rest).2 = 0 → ∀ s, hasName s (eachL g i rest ns).2 = (full.any (fun q => decide (nm q = s)) || before s))
  | [], i, ns, hd, hn => by
    refine ⟨rfl, fun _ s => ?_⟩
    have : full.take i = full := List.take_of_length_le (by simpa using hd)
    simp only [eachL, hn, this]
  | x :: r, i, ns, hd, hn => by
    have hget : full[i]? = some x := by
      have := congrArg List.head? hd
      simpa [List.head?_drop] using this
    have he : (g i x ns).1 = f i x := by
      rw [hg, hf i x hget]
      simp only [firstL, nameErr, hn]
      cases h1 : isNameS (nm x) <;> cases h2 : ((full.take i).any (fun q => decide (nm q = nm x)) || before (nm x)) <;> simp <;> exact fun h => h.symm
    have hs : (g i x ns).2 = addName (nm x) ns := by rw [hg]
    simp only [eachL, eachP, he, hs]
    by_cases h0 : f i x = 0
    · rw [if_neg (by simpa using h0), if_neg (by simpa using h0)]
      refine each_names nm g e before hg full f hf r (i + 1) _ ?_ (fun s => ?_)
      · rw [← List.drop_drop, hd]; rfl
      · rw [has_add, hn, List.take_add_one, hget]
        simp only [Option.toList_some, List.any_append, List.any_cons, List.any_nil, Bool.or_false]
        have : decide (s = nm x) = decide (nm x = s) := by simp only [decide_eq_decide]; exact eq_comm
        rw [this]
        cases decide (nm x = s) <;> cases (full.take i).any (fun q => decide (nm q = s)) <;> rfl
    · rw [if_pos h0, if_pos h0]
      exact ⟨rfl, fun h => absurd h h0⟩

theorem eachP_zero {α : Type} (g : Nat → α → Int) : ∀ (l : List α) (i : Nat), (eachP g i l).2 = 0 → eachP g i l = (0, 0)
  | [], _, _ => rfl
  | x :: r, i, h => by
    simp only [eachP] at h ⊢
    split at h
    · rename_i h0; exact absurd h h0
    · rename_i h0; rw [if_neg h0]; exact eachP_zero g r (i + 1) h

theorem ports_same (l : List Port) : (eachL portErrS 0 l []).1 = eachP (portErrR l) 0 l ∧ ((eachP (portErrR l) 0 l).2 = 0 → ∀ s, hasName s (eachL portErrS 0 l []).2 = l.any (fun q => decide (q.name = s))) := by
  have := each_names (fun p : Port => p.name) portErrS (fun p => if isW p.width = true then 0 else 2) (fun _ => false) (fun _ _ _ => rfl) l (portErrR l)
    (fun i x _ => by unfold portErrR; cases isW x.width <;> simp) l 0 [] rfl (fun s => rfl)
  simpa using this

theorem outs_same (n : Netl) : (eachL (outErrS n) 0 n.outs []).1 = eachP (outErrR n.nodes n.outs) 0 n.outs := by
  have := (each_names (fun p : Outp => p.name) (outErrS n) (fun p => if isNodeN n p.node = true then 0 else 9) (fun _ => false) (fun _ _ _ => rfl) n.outs (outErrR n.nodes n.outs)
    (fun i x _ => by unfold outErrR; rw [show isNodeN n x.node = isNodeL n.nodes x.node from rfl]; cases isNodeL n.nodes x.node <;> simp) n.outs 0 [] rfl (fun s => rfl)).1
  exact this

theorem regs_same (n : Netl) (ns : List ByteArray) (h : ∀ s, hasName s ns = n.inputs.any (fun q => decide (q.name = s))) : (eachL regErrS 0 n.regs ns).1 = eachP (regErrR n) 0 n.regs := by
  have := (each_names (fun p : Reg => p.name) regErrS (fun r => if (isW r.width && fitsN r.init r.width) = true then 0 else 2) (fun s => n.inputs.any (fun q => decide (q.name = s))) (fun _ _ _ => rfl) n.regs (regErrR n)
    (fun i x _ => by
      unfold regErrR
      cases (isW x.width && fitsN x.init x.width) <;> cases (n.regs.take i).any (fun q => decide (q.name = x.name)) <;> cases n.inputs.any (fun q => decide (q.name = x.name)) <;> simp) n.regs 0 ns rfl (fun s => by simp [h])).1
  exact this

theorem isW_all (n : Netl) (h1 : (eachP (portErrR n.inputs) 0 n.inputs).2 = 0) (h2 : (eachP (regErrR n) 0 n.regs).2 = 0) : (eachP (fun _ n => if isW n = true then (0 : Int) else 2) 0 (leavesN n)) = (0, 0) := by
  have key : ∀ {α : Type} (f : Nat → α → Int) (l : List α) (i : Nat), (eachP f i l).2 = 0 → ∀ j x, l[j]? = some x → f (i + j) x = 0 := by
    intro α f l
    induction l with
    | nil => intro i _ j x h; simp at h
    | cons y l ih =>
      intro i h j x hx
      simp only [eachP] at h
      split at h
      · rename_i h0; exact absurd h h0
      · rename_i h0
        cases j with
        | zero => simp at hx; subst hx; simpa using h0
        | succ j => have := ih (i + 1) h j x (by simpa using hx); rwa [show i + 1 + j = i + (j + 1) by omega] at this
  have key2 : ∀ (l : List Int) (i : Nat), (∀ w ∈ l, isW w = true) → eachP (fun _ n => if isW n = true then (0 : Int) else 2) i l = (0, 0) := by
    intro l
    induction l with
    | nil => intro i _; rfl
    | cons y l ih => intro i h; simp only [eachP, h y (by simp)]; simp; exact ih _ fun w hw => h w (by simp [hw])
  refine key2 _ _ fun w hw => ?_
  simp only [leavesN, List.mem_append, List.mem_map] at hw
  rcases hw with ⟨p, hp, rfl⟩ | ⟨r, hr, rfl⟩
  · obtain ⟨j, hj⟩ := List.getElem?_of_mem hp
    have := key _ _ _ h1 j p hj
    unfold portErrR at this
    cases hh : isW p.width with
    | true => rfl
    | false => rw [hh] at this; split at this <;> (try split at this) <;> simp_all
  · obtain ⟨j, hj⟩ := List.getElem?_of_mem hr
    have := key _ _ _ h2 j r hj
    unfold regErrR at this
    cases hh : isW r.width with
    | true => rfl
    | false => rw [hh] at this; split at this <;> (try split at this) <;> (try split at this) <;> simp_all

/-- P22.1: the program's answer is the reference's. -/
theorem checkNet_same (n : Netl) : checkNetS n = netErrR n := by
  unfold checkNetS netErrR
  obtain ⟨hp1, hp2⟩ := ports_same n.inputs
  have ho := outs_same n
  cases hN : isNameS n.name with
  | false => simp [firstP, firstL]
  | true =>
  simp only [firstP, firstL, hp1, ho, portsErrR]
  by_cases h12 : (n.inputs.length : Int) ≤ 12
  case neg => simp [h12, show 12 < n.inputs.length by omega]
  have h12' : ¬ 12 < n.inputs.length := by omega
  by_cases hP : (eachP (portErrR n.inputs) 0 n.inputs).2 = 0
  case neg => simp [h12, h12', hP]
  have hr := regs_same n _ (hp2 hP)
  by_cases h40 : (n.inputs.length : Int) + n.regs.length ≤ 40
  case neg => simp [h12, h12', hP, h40, show 40 < n.inputs.length + n.regs.length by omega]
  have h40' : ¬ 40 < n.inputs.length + n.regs.length := by omega
  by_cases hR : (eachP (regErrR n) 0 n.regs).2 = 0
  case neg => simp [h12, h12', hP, h40, h40', hr, hR]
  have hW := isW_all n hP hR
  have hC : checkNodesS (leavesN n) n.nodes = nodesErrR (leavesN n) n.nodes := by
    unfold checkNodesS nodesErrR
    rw [if_neg (by simp [leavesN]; omega), hW]
    simp
  by_cases hM : (nodesErrR (leavesN n) n.nodes).2 = 0
  case neg => simp [h12, h12', hP, h40, h40', hr, hR, hC, hM]
  by_cases hM2 : (eachP (regErr2S n) 0 n.regs).2 = 0
  case neg => simp [h12, h12', hP, h40, h40', hr, hR, hC, hM, hM2]
  by_cases h13 : (n.outs.length : Int) ≤ 12
  case neg => simp [h12, h12', hP, h40, h40', hr, hR, hC, hM, hM2, h13, outsErrR, show 12 < n.outs.length by omega]
  simp only [h12, h12', hP, h40, h40', hr, hR, hC, hM, hM2, h13, outsErrR, show ¬ 12 < n.outs.length by omega]
  by_cases hO : (eachP (outErrR n.nodes n.outs) 0 n.outs).2 = 0
  · simp [eachP_zero _ _ _ hO, hP]
  · simp [hP, hO]
end Go.E
/- What 'few' asks. Own work. -/
namespace Go.E
theorem small_of {n : Netl} (h : fewSizes n) (ha : fewAll n = true) : Small n := by
  obtain ⟨a1, a2, a3, a4, a5, a6⟩ := h
  simp only [fewAll, Bool.and_eq_true, List.all_eq_true, decide_eq_true_eq] at ha
  obtain ⟨b1, b2, b3, b4⟩ := ha
  exact ⟨by omega, by omega, by omega, by omega, by omega, fun p hp => by have := b2 p hp; omega, fun p hp => by have := b3 p hp; omega, fun p hp => by have := b4 p hp; omega, fun p hp => by have := b1 p hp; omega⟩
end Go.E
/- NetlistUsed, in E: the law answers true. Own work. -/
namespace Go.E
open Go.Proofs
set_option maxRecDepth 100000
set_option maxHeartbeats 8000000

theorem pruned_small {n : Netl} (hS : Small n) : Small (prunedS n) := by
  have hl := use_len n
  have s1 := hS.nodes
  have s2 := hS.regs
  refine ⟨hS.name, hS.inputs, ?_, ?_, ?_, hS.inn, fun r hr => ?_, fun o ho => ?_, fun x hx => ?_⟩
  · show ((useR n).map _).length ≤ 1000; rw [List.length_map]; omega
  · show ((useN n).map _).length ≤ 1000; rw [List.length_map]; omega
  · show (n.outs.map _).length ≤ 1000; rw [List.length_map]; exact hS.outs
  · obtain ⟨k, _, rfl⟩ := List.mem_map.1 (show r ∈ (useR n).map (prReg n (useN n)) from hr)
    unfold prReg
    split
    · rename_i q hq; exact hS.rgn q (List.mem_of_getElem? hq)
    · show ByteArray.empty.size ≤ 1000; decide
  · obtain ⟨q, hq, rfl⟩ := List.mem_map.1 (show o ∈ n.outs.map (prOut (useN n)) from ho)
    exact hS.otn q hq
  · obtain ⟨k, _, rfl⟩ := List.mem_map.1 (show x ∈ (useN n).map (prNode n (useN n) (useR n)) from hx)
    unfold prNode
    split
    · rename_i q hq; simp only [List.length_map]; exact hS.args q (List.mem_of_getElem? hq)
    · simp
theorem same_pruned {m : Netl} (h : Small m) (bs : List Nat) (H : Heap) : callw X bs 33 [encNetN m, encNetN m] H = some (.bool true, H) := by
  have hn : (encNetl m).norm = encNetl m := rfl
  rw [callw_norm (args' := [encNetl m, encNetl m]) xk33 (by simp only [List.map_cons, List.map_nil, encNetN_norm, hn]), bs_sameNet bs H m m h h]; simp
theorem same_zero (bs : List Nat) (H : Heap) : callw X bs 33 [zeroNet, zeroNet] H = some (.bool true, H) := by
  have hs : Small ⟨⟨#[]⟩, [], [], [], []⟩ := by constructor <;> simp <;> decide
  rw [callw_norm (args' := [encNetl ⟨⟨#[]⟩, [], [], [], []⟩, encNetl ⟨⟨#[]⟩, [], [], [], []⟩]) xk33 (by rfl), bs_sameNet bs H _ _ hs hs]; simp
theorem nlV_cell (l : List V) : (nlV l).isCell = true := by cases l <;> rfl
theorem encN_form (m : Netl) : ∃ nm ip rv nv ov, encNetN m = .agg [.str nm, ip, rv, nv, ov] ∧ ip.isCell = true ∧ rv.isCell = true ∧ nv.isCell = true ∧ ov.isCell = true := ⟨_, _, _, _, _, rfl, rfl, nlV_cell _, nlV_cell _, nlV_cell _⟩

theorem la_used (n : Netl) : callw X [] 5 [encNetl n] [] = some (.bool true, []) := by
  refine call_at (rs := [.tmp 2]) (N := 83) (fn := Tryz.f5) xk5 xf5 rfl rfl rfl (by simp only [seval, push_cast, List.map_cons, List.map_nil, V.norm, norm1]; rfl) ?_
  have t0 := la_awake (cellsNetl n)
  simp only [cellsNetl] at t0
  by_cases h : fewSizes n
  case neg =>
    have t1 := fun bs H => la_few_big bs H n h
    simp only [encNetl, cellsNetl] at t1
    repeat' first
     | (apply z51 (id := 11) (ord := [0, 1, 2, 3, 4, 5, 6, 7, 8, 9, 10, 11, 12, 13, 14, 15, 16, 17, 18, 19, 20, 21, 22]) (ps := [(17, 19)]) <;> first | kernel_rfl | skip)
     | (refine zs ?_; repeat' first | apply zs0 | apply zs2 | (intro hc; try have hq := dq hc)) | fail
  have t1 := fun bs H => la_few bs H n h
  simp only [encNetl, cellsNetl] at t1
  cases ha : fewAll n with
  | false =>
    rw [ha] at t1
    repeat' first
     | (apply z51 (id := 11) (ord := [0, 1, 2, 3, 4, 5, 6, 7, 8, 9, 10, 11, 12, 13, 14, 15, 16, 17, 18, 19, 20, 21, 22]) (ps := [(17, 19)]) <;> first | kernel_rfl | skip)
     | (refine zs ?_; repeat' first | apply zs0 | apply zs2 | (intro hc; try have hq := dq hc)) | fail
  | true =>
  rw [ha] at t1
  have hS := small_of h ha
  have hcs : checkNetS n = netErrR n := checkNet_same n
  have t2 := fun bs H => bs_copyNet bs H n hS
  have t3 := fun bs H => nl_usedIn bs H n hS
  have t4 := fun bs H => nl_pruned bs H n hS
  have t9 := fun bs H => rf_err bs H n hS
  rw [← hcs] at t9
  simp only [encNetl, cellsNetl] at t2 t3 t4 t9
  clear h ha
  by_cases he : (checkNetS n).2 = 0
  case neg =>
    have u1 := fun bs H => same_zero bs H
    simp only [if_neg he, zeroNet] at t3 t4 u1
    generalize (checkNetS n).2 = c at t3 t4 t9 he
    clear hcs hS
    repeat' first
     | (apply z51 (id := 11) (ord := [0, 1, 2, 3, 4, 5, 6, 7, 8, 9, 10, 11, 12, 13, 14, 15, 16, 17, 18, 19, 20, 21, 22]) (ps := [(17, 19)]) <;> first | kernel_rfl | skip)
     | (refine zs ?_; repeat' first | apply zs0 | apply zs2 | (intro hc; try have hq := dq hc)) | fail
  have hk := net_ok he
  have t5 := fun bs H => rf_used bs H n hS hk
  have t6 := fun bs H => rf_pruned bs H n hS hk
  have u2 := fun bs H => same_pruned (pruned_small hS) bs H
  have hl1 := idxB_len (usedRb n) 0
  have hl2 := idxB_len (usedNb n) 0
  have s1 := hS.nodes
  have s2 := hS.regs
  simp only [usedRb, usedNb, List.length_map, List.length_range] at hl1 hl2
  have w1 := fun bs H => bs_ints bs H (idxB 0 (usedRb n)) (idxB 0 (usedRb n)) (by simp only [usedRb]; omega) (by simp only [usedRb]; omega)
  have w2 := fun bs H => bs_ints bs H (idxB 0 (usedNb n)) (idxB 0 (usedNb n)) (by simp only [usedNb]; omega) (by simp only [usedNb]; omega)
  obtain ⟨nm, ip, rv, nv, ov, hf, c1, c2, c3, c4⟩ := encN_form (prunedS n)
  rw [hf] at t6 u2
  simp only [he, if_true, hf] at t3 t4 t9
  simp only [decide_true] at w1 w2
  simp only [encNetl, cellsNetl] at t5 t6
  simp only [V.isCell] at c1 c2 c3 c4
  generalize idxB 0 (usedRb n) = A at t3 t5 w1
  generalize idxB 0 (usedNb n) = B at t3 t5 w2
  have hok : ∀ id v, okStore [0] id v = true := fun id v => by simp [okStore]
  clear hcs hS he hk hl1 hl2 s1 s2 hf
  repeat' first
   | (apply z51 (id := 11) (ord := [0, 1, 2, 3, 4, 5, 6, 7, 8, 9, 10, 11, 12, 13, 14, 15, 16, 17, 18, 19, 20, 21, 22]) (ps := [(17, 19)]) <;> first | kernel_rfl | skip)
   | (refine zs ?_; repeat' first | apply zs0 | apply zs2 | (intro hc; try have hq := dq hc)) | fail
end Go.E
