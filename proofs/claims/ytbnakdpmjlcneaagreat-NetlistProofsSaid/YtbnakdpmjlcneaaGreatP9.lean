/- Plain law of chapter 22: which netlists are valid. Own work. -/
import Derived.Test.YtbnakdpmjlcneaaGreatP4
import Derived.Test.YtbnakdpmjlcneaaGreatP8
import Derived.Test.YtbnakdpmjlcneaaGreatP7
set_option linter.all false
namespace Go.E

theorem has_add (s t : ByteArray) : ∀ ns : List ByteArray, hasName s (addName t ns) = (decide (s = t) || hasName s ns)
  | [] => by simp [addName, hasName]
  | u :: r => by
    simp only [addName]
    by_cases h : t = u
    · subst h
      simp [hasName]
    · rw [if_neg h]
      simp only [hasName, has_add s t r]
      cases decide (s = u) <;> cases decide (s = t) <;> rfl

/-- each over names that are to be new: as the reference tells it. -/
theorem each_names {α : Type} (nm : α → ByteArray) (g : Nat → α → List ByteArray → Int × List ByteArray) (e : α → Int) (before : ByteArray → Bool)
    (hg : ∀ i x ns, g i x ns = (firstL [nameErr ns (nm x), e x], addName (nm x) ns)) (full : List α) (f : Nat → α → Int)
    (hf : ∀ i x, full[i]? = some x → f i x = if isNameS (nm x) = false then 4 else if ((full.take i).any (fun q => decide (nm q = nm x)) || before (nm x)) = true then 5 else e x) :
    ∀ (rest : List α) (i : Nat) (ns : List ByteArray), full.drop i = rest → (∀ s, hasName s ns = ((full.take i).any (fun q => decide (nm q = s)) || before s)) →
      (eachL g i rest ns).1 = eachP f i rest ∧ ((eachP f i rest).2 = 0 → ∀ s, hasName s (eachL g i rest ns).2 = (full.any (fun q => decide (nm q = s)) || before s))
  | [], i, ns, hd, hn => by
    refine ⟨rfl, fun _ s => ?_⟩
    have : full.take i = full := List.take_of_length_le (by simpa using hd)
    simp only [eachL, hn, this]
  | x :: r, i, ns, hd, hn => by
    have hget : full[i]? = some x := by
      have := congrArg List.head? hd
      simpa [List.head?_drop] using this
    have he : (g i x ns).1 = f i x := by
      rw [hg, hf i x hget]
      simp only [firstL, nameErr, hn]
      cases h1 : isNameS (nm x) <;> cases h2 : ((full.take i).any (fun q => decide (nm q = nm x)) || before (nm x)) <;> simp <;> exact fun h => h.symm
    have hs : (g i x ns).2 = addName (nm x) ns := by rw [hg]
    simp only [eachL, eachP, he, hs]
    by_cases h0 : f i x = 0
    · rw [if_neg (by simpa using h0), if_neg (by simpa using h0)]
      refine each_names nm g e before hg full f hf r (i + 1) _ ?_ (fun s => ?_)
      · rw [← List.drop_drop, hd]; rfl
      · rw [has_add, hn, List.take_add_one, hget]
        simp only [Option.toList_some, List.any_append, List.any_cons, List.any_nil, Bool.or_false]
        have : decide (s = nm x) = decide (nm x = s) := by simp only [decide_eq_decide]; exact eq_comm
        rw [this]
        cases decide (nm x = s) <;> cases (full.take i).any (fun q => decide (nm q = s)) <;> rfl
    · rw [if_pos h0, if_pos h0]
      exact ⟨rfl, fun h => absurd h h0⟩

theorem eachP_zero {α : Type} (g : Nat → α → Int) : ∀ (l : List α) (i : Nat), (eachP g i l).2 = 0 → eachP g i l = (0, 0)
  | [], _, _ => rfl
  | x :: r, i, h => by
    simp only [eachP] at h ⊢
    split at h
    · rename_i h0; exact absurd h h0
    · rename_i h0; rw [if_neg h0]; exact eachP_zero g r (i + 1) h

theorem ports_same (l : List Port) : (eachL portErrS 0 l []).1 = eachP (portErrR l) 0 l ∧ ((eachP (portErrR l) 0 l).2 = 0 → ∀ s, hasName s (eachL portErrS 0 l []).2 = l.any (fun q => decide (q.name = s))) := by
  have := each_names (fun p : Port => p.name) portErrS (fun p => if isW p.width = true then 0 else 2) (fun _ => false) (fun _ _ _ => rfl) l (portErrR l)
    (fun i x _ => by unfold portErrR; cases isW x.width <;> simp) l 0 [] rfl (fun s => rfl)
  simpa using this

theorem outs_same (n : Netl) : (eachL (outErrS n) 0 n.outs []).1 = eachP (outErrR n.nodes n.outs) 0 n.outs := by
  have := (each_names (fun p : Outp => p.name) (outErrS n) (fun p => if isNodeN n p.node = true then 0 else 9) (fun _ => false) (fun _ _ _ => rfl) n.outs (outErrR n.nodes n.outs)
    (fun i x _ => by unfold outErrR; rw [show isNodeN n x.node = isNodeL n.nodes x.node from rfl]; cases isNodeL n.nodes x.node <;> simp) n.outs 0 [] rfl (fun s => rfl)).1
  exact this

theorem regs_same (n : Netl) (ns : List ByteArray) (h : ∀ s, hasName s ns = n.inputs.any (fun q => decide (q.name = s))) : (eachL regErrS 0 n.regs ns).1 = eachP (regErrR n) 0 n.regs := by
  have := (each_names (fun p : Reg => p.name) regErrS (fun r => if (isW r.width && fitsN r.init r.width) = true then 0 else 2) (fun s => n.inputs.any (fun q => decide (q.name = s))) (fun _ _ _ => rfl) n.regs (regErrR n)
    (fun i x _ => by
      unfold regErrR
      cases (isW x.width && fitsN x.init x.width) <;> cases (n.regs.take i).any (fun q => decide (q.name = x.name)) <;> cases n.inputs.any (fun q => decide (q.name = x.name)) <;> simp) n.regs 0 ns rfl (fun s => by simp [h])).1
  exact this

theorem isW_all (n : Netl) (h1 : (eachP (portErrR n.inputs) 0 n.inputs).2 = 0) (h2 : (eachP (regErrR n) 0 n.regs).2 = 0) : (eachP (fun _ n => if isW n = true then (0 : Int) else 2) 0 (leavesN n)) = (0, 0) := by
  have key : ∀ {α : Type} (f : Nat → α → Int) (l : List α) (i : Nat), (eachP f i l).2 = 0 → ∀ j x, l[j]? = some x → f (i + j) x = 0 := by
    intro α f l
    induction l with
    | nil => intro i _ j x h; simp at h
    | cons y l ih =>
      intro i h j x hx
      simp only [eachP] at h
      split at h
      · rename_i h0; exact absurd h h0
      · rename_i h0
        cases j with
        | zero => simp at hx; subst hx; simpa using h0
        | succ j => have := ih (i + 1) h j x (by simpa using hx); rwa [show i + 1 + j = i + (j + 1) by omega] at this
  have key2 : ∀ (l : List Int) (i : Nat), (∀ w ∈ l, isW w = true) → eachP (fun _ n => if isW n = true then (0 : Int) else 2) i l = (0, 0) := by
    intro l
    induction l with
    | nil => intro i _; rfl
    | cons y l ih => intro i h; simp only [eachP, h y (by simp)]; simp; exact ih _ fun w hw => h w (by simp [hw])
  refine key2 _ _ fun w hw => ?_
  simp only [leavesN, List.mem_append, List.mem_map] at hw
  rcases hw with ⟨p, hp, rfl⟩ | ⟨r, hr, rfl⟩
  · obtain ⟨j, hj⟩ := List.getElem?_of_mem hp
    have := key _ _ _ h1 j p hj
    unfold portErrR at this
    cases hh : isW p.width with
    | true => rfl
    | false => rw [hh] at this; split at this <;> (try split at this) <;> simp_all
  · obtain ⟨j, hj⟩ := List.getElem?_of_mem hr
    have := key _ _ _ h2 j r hj
    unfold regErrR at this
    cases hh : isW r.width with
    | true => rfl
    | false => rw [hh] at this; split at this <;> (try split at this) <;> (try split at this) <;> simp_all

/-- P22.1: the program's answer is the reference's. -/
theorem checkNet_same (n : Netl) : checkNetS n = netErrR n := by
  unfold checkNetS netErrR
  obtain ⟨hp1, hp2⟩ := ports_same n.inputs
  have ho := outs_same n
  cases hN : isNameS n.name with
  | false => simp [firstP, firstL]
  | true =>
  simp only [firstP, firstL, hp1, ho, portsErrR]
  by_cases h12 : (n.inputs.length : Int) ≤ 12
  case neg => simp [h12, show 12 < n.inputs.length by omega]
  have h12' : ¬ 12 < n.inputs.length := by omega
  by_cases hP : (eachP (portErrR n.inputs) 0 n.inputs).2 = 0
  case neg => simp [h12, h12', hP]
  have hr := regs_same n _ (hp2 hP)
  by_cases h40 : (n.inputs.length : Int) + n.regs.length ≤ 40
  case neg => simp [h12, h12', hP, h40, show 40 < n.inputs.length + n.regs.length by omega]
  have h40' : ¬ 40 < n.inputs.length + n.regs.length := by omega
  by_cases hR : (eachP (regErrR n) 0 n.regs).2 = 0
  case neg => simp [h12, h12', hP, h40, h40', hr, hR]
  have hW := isW_all n hP hR
  have hC : checkNodesS (leavesN n) n.nodes = nodesErrR (leavesN n) n.nodes := by
    unfold checkNodesS nodesErrR
    rw [if_neg (by simp [leavesN]; omega), hW]
    simp
  by_cases hM : (nodesErrR (leavesN n) n.nodes).2 = 0
  case neg => simp [h12, h12', hP, h40, h40', hr, hR, hC, hM]
  by_cases hM2 : (eachP (regErr2S n) 0 n.regs).2 = 0
  case neg => simp [h12, h12', hP, h40, h40', hr, hR, hC, hM, hM2]
  by_cases h13 : (n.outs.length : Int) ≤ 12
  case neg => simp [h12, h12', hP, h40, h40', hr, hR, hC, hM, hM2, h13, outsErrR, show 12 < n.outs.length by omega]
  simp only [h12, h12', hP, h40, h40', hr, hR, hC, hM, hM2, h13, outsErrR, show ¬ 12 < n.outs.length by omega]
  by_cases hO : (eachP (outErrR n.nodes n.outs) 0 n.outs).2 = 0
  · simp [eachP_zero _ _ _ hO, hP]
  · simp [hP, hO]
end Go.E
/- Contracts of the package netlist, in E: two netlists, and which pairs are a proof. Own work. -/
namespace Go.E
open Go.Proofs
set_option maxRecDepth 100000
set_option maxHeartbeats 4000000

theorem outNode {n : Netl} (hk : NetOk n) {o : Outp} (h : o ∈ n.outs) : 0 ≤ o.node ∧ o.node < n.nodes.length := hk.outs o h
def zeroCouple : V := .agg [.str ⟨#[]⟩, .nilS, .nilS, .nilS, .nilS, .str ⟨#[]⟩, .nilS, .nilS, .nilS, .nilS]

theorem nl_ob_err (bs : List Nat) (H : Heap) (a b : Netl) (ins : List (List Int)) (hSa : Small a) (hSb : Small b) (he : ¬ ((checkNetS a).2 = 0 ∧ (checkNetS b).2 = 0)) : callw X bs 109 [encNetl a, encNetl b, .list (ins.map encInts)] H = some (.tuple [zeroCouple, .int .i64 (if (checkNetS a).2 ≠ 0 then (checkNetS a).2 else (checkNetS b).2)], H) := by
  refine call_at (rs := [.cell 6 145, .tmp 7]) (N := 54) (fn := Tryz.f109) xk109 xf109 rfl rfl rfl (by simp only [seval, push_cast, List.map_cons, List.map_nil, V.norm, norm1]; rfl) ?_
  have h1 := fun bs H => nl_open bs H a hSa
  have h2 := fun bs H => nl_open bs H b hSb
  simp only [encNetl, cellsNetl] at h1 h2
  unfold zeroCouple
  generalize (checkNetS a).2 = ca at h1 he ⊢
  generalize (checkNetS b).2 = cb at h2 he ⊢
  clear hSa hSb
  by_cases h0 : ca = 0
  · have hb : ¬ cb = 0 := fun h => he ⟨h0, h⟩
    subst h0
    rw [if_neg (by simp)]
    clear he
    repeat' first
     | (apply z51 (id := 7) (ord := [0, 1, 2, 3, 5, 6, 4, 7, 8, 9, 10, 11]) (ps := [(0, 6), (0, 7), (0, 9), (1, 6), (1, 7), (1, 9), (4, 6)]) <;> first | kernel_rfl | skip)
     | (refine zs ?_; repeat' first | apply zs0 | apply zs2 | (intro hc; try have hq := dq hc)) | fail
  · rw [if_pos h0]
    clear he
    repeat' first
     | (apply z51 (id := 7) (ord := [0, 1, 2, 3, 5, 6, 4, 7, 8, 9, 10, 11]) (ps := [(0, 6), (0, 7), (0, 9), (1, 6), (1, 7), (1, 9), (4, 6)]) <;> first | kernel_rfl | skip)
     | (refine zs ?_; repeat' first | apply zs0 | apply zs2 | (intro hc; try have hq := dq hc)) | fail

theorem nl_ob_ok (bs : List Nat) (H : Heap) (a b : Netl) (ins : List (List Int)) (hSa : Small a) (hSb : Small b) (ha : (checkNetS a).2 = 0) (hb : (checkNetS b).2 = 0) (hin : ins.length ≤ 1000) (hll : ∀ x ∈ ins, x.length ≤ 100000) : callw X bs 109 [encNetl a, encNetl b, .list (ins.map encInts)] H = some (.tuple [encCouple a b, .int .i64 (firstL [if clashS a b = true then 0 else 13, listsErrS a ins])], H) := by
  refine call_at (rs := [.cell 6 145, .tmp 7]) (N := 54) (fn := Tryz.f109) xk109 xf109 rfl rfl rfl (by simp only [seval, push_cast, List.map_cons, List.map_nil, V.norm, norm1]; rfl) ?_
  have hka := net_ok ha
  have hkb := net_ok hb
  have h1 := fun bs H => nl_open bs H a hSa
  have h2 := fun bs H => nl_open bs H b hSb
  have t1 := fun bs H => sl_eqPorts bs H a.inputs b.inputs (by have := hSa.inputs; omega) (by have := hSb.inputs; omega)
  have t2 := fun (bs : List Nat) (x : HObj) (J : List HObj) => sl_eqOuts bs (H ++ .cells (cellsNetl a) :: .cells (cellsNetl b) :: x :: J) 157 [.ptr H.length 0, .ptr (H.length + 1) 0] (outAs a b) a.outs b.outs (by have := hSa.outs; omega) (by have := hSb.outs; omega)
    (fun bs J p q hp hq => nl_ob1 bs _ a b p q H.length (H.length + 1) (by simp) (by simp) (outNode hka hp) (outNode hkb hq))
  have t3 := fun bs H => nl_listsErr bs H a ins hSa hka hin hll
  rw [ha] at h1
  rw [hb] at h2
  unfold clashS
  simp only [encNetl, cellsNetl] at h1 h2 t2 t3
  generalize decide (a.inputs = b.inputs) = c at t1 ⊢
  generalize eqF (outAs a b) a.outs b.outs = d at t2 ⊢
  generalize listsErrS a ins = e at t3 ⊢
  clear hSa hSb ha hb hka hkb hin hll
  cases c with
  | true =>
    rw [Bool.true_and]
    repeat' first
     | (apply z51 (id := 7) (ord := [0, 1, 2, 3, 5, 6, 4, 7, 8, 9, 10, 11]) (ps := [(0, 6), (0, 7), (0, 9), (1, 6), (1, 7), (1, 9), (4, 6)]) <;> first | kernel_rfl | skip)
     | (refine zs ?_; repeat' first | apply zs0 | apply zs2 | (intro hc; try have hq := dq hc)) | fail
  | false =>
    rw [Bool.false_and]
    repeat' first
     | (apply z51 (id := 7) (ord := [0, 1, 2, 3, 5, 6, 4, 7, 8, 9, 10, 11]) (ps := [(0, 6), (0, 7), (0, 9), (1, 6), (1, 7), (1, 9), (4, 6)]) <;> first | kernel_rfl | skip)
     | (refine zs ?_; repeat' first | apply zs0 | apply zs2 | (intro hc; try have hq := dq hc)) | fail

theorem clash_in {a b : Netl} (h : clashS a b = true) (x : List Int) : inErrS b x = inErrS a x := by
  unfold clashS at h
  rw [Bool.and_eq_true] at h
  unfold inErrS
  rw [of_decide_eq_true h.1]
theorem lists_in {a : Netl} {ins : List (List Int)} (h : listsErrS a ins = 0) : ∀ x ∈ ins, inErrS a x = 0 := fun x hx => by
  unfold listsErrS at h
  split at h
  · cases h
  split at h
  · cases h
  obtain ⟨k, hk⟩ := List.getElem?_of_mem hx
  exact eachP_ok _ ins 0 h k x hk
theorem ck_of {n : Netl} (hS : Small n) (hk : NetOk n) {x st : List Int} (h1 : inErrS n x = 0) (h2 : stErrS n st = 0) : CkOk n x st := ⟨hS, hk, leafOk_of hk h1 (regOk_of hk h2), (regOk_of hk h2).1⟩
def sameErrS (a b : Netl) (ins : List (List Int)) (l : List NPair) : Int × Int := if bothErrS a b ins ≠ 0 then (0, bothErrS a b ins) else pairsErrS a b ins l
theorem both_bad {a b : Netl} {ins : List (List Int)} (he : ¬ ((checkNetS a).2 = 0 ∧ (checkNetS b).2 = 0)) : bothErrS a b ins = (if (checkNetS a).2 ≠ 0 then (checkNetS a).2 else (checkNetS b).2) ∧ bothErrS a b ins ≠ 0 := by
  unfold bothErrS twoErrS
  by_cases h0 : (checkNetS a).2 = 0
  · have hb : (checkNetS b).2 ≠ 0 := fun h => he ⟨h0, h⟩
    simp [h0, hb]
  · simp [h0]
theorem both_good {a b : Netl} {ins : List (List Int)} (ha : (checkNetS a).2 = 0) (hb : (checkNetS b).2 = 0) : bothErrS a b ins = firstL [if clashS a b = true then 0 else 13, listsErrS a ins] := by
  unfold bothErrS twoErrS
  cases clashS a b <;> simp [ha, hb, firstL] <;> intro h <;> exact h.symm
theorem both_ok {a b : Netl} {ins : List (List Int)} (h : bothErrS a b ins = 0) : (checkNetS a).2 = 0 ∧ (checkNetS b).2 = 0 ∧ clashS a b = true ∧ listsErrS a ins = 0 := by
  by_cases he : (checkNetS a).2 = 0 ∧ (checkNetS b).2 = 0
  case neg => exact absurd h (both_bad he).2
  refine ⟨he.1, he.2, ?_⟩
  rw [both_good he.1 he.2] at h
  cases hc : clashS a b with
  | false => rw [hc] at h; simp [firstL] at h
  | true =>
    rw [hc] at h
    simp only [firstL, if_true, ne_eq, not_true_eq_false, if_false] at h
    refine ⟨rfl, ?_⟩
    split at h
    · exact h
    · rename_i g; simpa using g

theorem nl_checkSame (bs : List Nat) (H : Heap) (a b : Netl) (ins : List (List Int)) (l : List NPair) (hSa : Small a) (hSb : Small b) (hin : ins.length ≤ 1000) (hil : ∀ x ∈ ins, x.length ≤ 100000) (hll : l.length ≤ 1000) (hpl : ∀ x ∈ l, PLen x) : callw X bs 38 [encNetl a, encNetl b, .list (ins.map encInts), .list (l.map encPair)] H = some (.tuple [.int .i64 (sameErrS a b ins l).1, .int .i64 (sameErrS a b ins l).2], H) := by
  refine call_at (rs := [.tmp 8, .tmp 9]) (N := 53) (fn := Tryz.f38) xk38 xf38 rfl rfl rfl (by simp only [seval, push_cast, List.map_cons, List.map_nil, V.norm, norm1]; rfl) ?_
  unfold sameErrS
  by_cases he : (checkNetS a).2 = 0 ∧ (checkNetS b).2 = 0
  case neg =>
    have t1 := fun bs H => nl_ob_err bs H a b ins hSa hSb he
    obtain ⟨e1, e2⟩ := both_bad (ins := ins) he
    rw [← e1] at t1
    rw [if_pos e2]
    simp only [encNetl, cellsNetl, zeroCouple] at t1
    generalize bothErrS a b ins = c at t1 e2 ⊢
    clear he e1 hSa hSb hil hpl hin
    by_cases h3 : l.length ≤ 300
    · have d : decide ((l.length : Int) ≤ 300) = true := decide_eq_true (by omega)
      clear h3
      repeat' first
       | (apply z51 (id := 9) (ord := [0, 1, 2, 3, 4]) (ps := [(0, 2)]) <;> first | kernel_rfl | skip)
       | (refine zs ?_; repeat' first | apply zs0 | apply zs2 | (intro hc; try have hq := dq hc)) | fail
    · have d : decide ((l.length : Int) ≤ 300) = false := decide_eq_false (by omega)
      clear h3
      repeat' first
       | (apply z51 (id := 9) (ord := [0, 1, 2, 3, 4]) (ps := [(0, 2)]) <;> first | kernel_rfl | skip)
       | (refine zs ?_; repeat' first | apply zs0 | apply zs2 | (intro hc; try have hq := dq hc)) | fail
  have t1 := fun bs H => nl_ob_ok bs H a b ins hSa hSb he.1 he.2 hin hil
  rw [← both_good he.1 he.2] at t1
  by_cases e0 : bothErrS a b ins = 0
  case neg =>
    rw [if_pos e0]
    simp only [encNetl, encCouple, cellsNetl, List.cons_append, List.nil_append] at t1
    generalize bothErrS a b ins = c at t1 e0 ⊢
    clear he hSa hSb hil hpl hin
    by_cases h3 : l.length ≤ 300
    · have d : decide ((l.length : Int) ≤ 300) = true := decide_eq_true (by omega)
      clear h3
      repeat' first
       | (apply z51 (id := 9) (ord := [0, 1, 2, 3, 4]) (ps := [(0, 2)]) <;> first | kernel_rfl | skip)
       | (refine zs ?_; repeat' first | apply zs0 | apply zs2 | (intro hc; try have hq := dq hc)) | fail
    · have d : decide ((l.length : Int) ≤ 300) = false := decide_eq_false (by omega)
      clear h3
      repeat' first
       | (apply z51 (id := 9) (ord := [0, 1, 2, 3, 4]) (ps := [(0, 2)]) <;> first | kernel_rfl | skip)
       | (refine zs ?_; repeat' first | apply zs0 | apply zs2 | (intro hc; try have hq := dq hc)) | fail
  obtain ⟨_, _, hcl, hli⟩ := both_ok e0
  have hka := net_ok he.1
  have hkb := net_ok he.2
  have hra := hSa.regs
  have hrb := hSb.regs
  rw [if_neg (by simpa using e0)]
  rw [e0] at t1
  unfold pairsErrS
  by_cases h3 : 300 < l.length
  · have d : decide ((l.length : Int) ≤ 300) = false := decide_eq_false (by omega)
    rw [if_pos h3]
    simp only [encNetl, encCouple, cellsNetl, List.cons_append, List.nil_append] at t1
    clear he hSa hSb hil hpl hin h3 hka hkb hcl hli e0
    repeat' first
     | (apply z51 (id := 9) (ord := [0, 1, 2, 3, 4]) (ps := [(0, 2)]) <;> first | kernel_rfl | skip)
     | (refine zs ?_; repeat' first | apply zs0 | apply zs2 | (intro hc; try have hq := dq hc)) | fail
  rw [if_neg h3]
  have d : decide ((l.length : Int) ≤ 300) = true := decide_eq_true (by omega)
  have u1 := fun (bs : List Nat) (J : List HObj) => netlist_each_NPair_p bs (H ++ HObj.cells (cellsNetl a) :: HObj.cells (cellsNetl b) :: HObj.cells [.list (ins.map encInts)] :: HObj.cells [.list (l.map encPair)] :: HObj.cells (cellsNetl a ++ cellsNetl b) :: J) 111 [.ptr (H.length + 4) 0, .ptr (H.length + 3) 0] (ordErrS a b l) l (by omega)
    (fun bs i x junk hx => nl_cs1 bs _ a b l i x (H.length + 4) (H.length + 3) hSa hSb hka hkb (List.getElem?_eq_some_iff.1 hx).1 hll hpl (hpl x (List.mem_of_getElem? hx)) (by simp) (by simp))
  by_cases hz : (eachP (ordErrS a b l) 0 l).2 = 0
  case neg =>
    rw [if_pos hz]
    simp only [encNetl, encCouple, cellsNetl, List.cons_append, List.nil_append] at t1 u1
    generalize eachP (ordErrS a b l) 0 l = r at u1 hz ⊢
    clear he hSa hSb hil hpl hin h3 hka hkb hcl hli e0
    repeat' first
     | (apply z51 (id := 9) (ord := [0, 1, 2, 3, 4]) (ps := [(0, 2)]) <;> first | kernel_rfl | skip)
     | (refine zs ?_; repeat' first | apply zs0 | apply zs2 | (intro hc; try have hq := dq hc)) | fail
  rw [if_neg (by simpa using hz)]
  have hsort := ord_sorted hz
  have hok := ord_ok hz
  have u2 := fun bs H => nl_creset bs H a b hra hrb
  have hpr : PLen (resetP a b) := ⟨by simp only [resetP, List.length_map]; omega, by simp only [resetP, List.length_map]; omega⟩
  have u3 := fun (bs : List Nat) (J : List HObj) => nl_has bs (H ++ HObj.cells (cellsNetl a) :: HObj.cells (cellsNetl b) :: HObj.cells [.list (ins.map encInts)] :: HObj.cells [.list (l.map encPair)] :: HObj.cells (cellsNetl a ++ cellsNetl b) :: J) l (resetP a b) (H.length + 3) hll hpl hpr hsort (by simp)
  have u4 := fun (bs : List Nat) (J : List HObj) => netlist_each_NPair_p bs (H ++ HObj.cells (cellsNetl a) :: HObj.cells (cellsNetl b) :: HObj.cells [.list (ins.map encInts)] :: HObj.cells [.list (l.map encPair)] :: HObj.cells (cellsNetl a ++ cellsNetl b) :: HObj.cells [.func 113 [.ptr (H.length + 3) 0]] :: J) 116 [.ptr (H.length + 2) 0, .ptr (H.length + 4) 0, .ptr (H.length + 5) 0] (clErrS a b ins l) l (by omega)
    (fun bs i x junk hx => nl_cs3 bs _ a b ins l i x (H.length + 2) (H.length + 4) (H.length + 5) (H.length + 3) hra hrb hin
      (fun y hy => ⟨ck_of hSa hka (lists_in hli y hy) (hok x (List.mem_of_getElem? hx)).1, ck_of hSb hkb (by rw [clash_in hcl]; exact lists_in hli y hy) (hok x (List.mem_of_getElem? hx)).2⟩) hll hpl hsort (by simp) (by simp) (by simp) (by simp))
  have hz2 : (eachP (ordErrS a b l) 0 l) = (0, 0) := eachP_zero _ l 0 hz
  rw [hz2] at u1
  simp only [encNetl, encCouple, cellsNetl, encPair, encInts, List.cons_append, List.nil_append] at t1 u1 u2 u3 u4
  generalize eachP (clErrS a b ins l) 0 l = r at u4 ⊢
  by_cases hm : resetP a b ∈ l
  · rw [if_pos hm]
    rw [decide_eq_true hm] at u3
    generalize resetP a b = p at u2 u3
    clear he hSa hSb hil hpl hin h3 hka hkb hcl hli e0 hz hsort hok hpr hz2 hm
    repeat' first
     | (apply z51 (id := 9) (ord := [0, 1, 2, 3, 4]) (ps := [(0, 2)]) <;> first | kernel_rfl | skip)
     | (refine zs ?_; repeat' first | apply zs0 | apply zs2 | (intro hc; try have hq := dq hc)) | fail
  · rw [if_neg hm]
    rw [decide_eq_false hm] at u3
    generalize resetP a b = p at u2 u3
    clear he hSa hSb hil hpl hin h3 hka hkb hcl hli e0 hz hsort hok hpr hz2 hm u4
    repeat' first
     | (apply z51 (id := 9) (ord := [0, 1, 2, 3, 4]) (ps := [(0, 2)]) <;> first | kernel_rfl | skip)
     | (refine zs ?_; repeat' first | apply zs0 | apply zs2 | (intro hc; try have hq := dq hc)) | fail

end Go.E
/- Contracts of the references, in E: which pairs are a proof. Own work. -/
namespace Go.E
open Go.Proofs
set_option maxRecDepth 100000
set_option maxHeartbeats 4000000

theorem eqF_drop {f : Outp → Outp → Bool} {l r : List Outp} {i : Nat} {x y : Outp} (h1 : l[i]? = some x) (h2 : r[i]? = some y) : eqF f (l.drop i) (r.drop i) = (f x y && eqF f (l.drop (i + 1)) (r.drop (i + 1))) := by
  rw [drop_cons h1, drop_cons h2, eqF]

theorem te_outs (a b : Netl) (hka : NetOk a) (hkb : NetOk b) (hl : a.outs.length ≤ 1000) (hab : a.outs.length = b.outs.length) (H : Heap) (R : Bool) (bs : List Nat) :
    ∀ i ρ H', i ≤ a.outs.length → (H' = H ++ [.cells (cellsNetl a), .cells (cellsNetl b)] ∧ ρ 2 = .ptr H.length 0 ∧ ρ 3 = .ptr (H.length + 1) 0 ∧ ρ 7 = .int .i64 i ∧ Kp (eqF (outAs a b) (a.outs.drop i) (b.outs.drop i) = R)) →
      Lp X ⟨78, bs⟩ (loopAt Tryz.f108 0) ρ H' fun ex ρ' H' => H' = H ++ [.cells (cellsNetl a), .cells (cellsNetl b)] ∧ ((ex = .exit 0 ∧ R = true) ∨ (ex = .ret ∧ ρ' 4 = .int .i64 13 ∧ R = false)) := by
  refine loop_up ?_ ?_
  · rintro i ρ H' hi ⟨rfl, h2, h3, h7, hR⟩
    have hi2 : i < b.outs.length := by omega
    have hget : a.outs[i]? = some a.outs[i] := by simp [hi]
    have hgetb : b.outs[i]? = some b.outs[i] := by simp [hi2]
    have hob := hka.outs _ (List.getElem_mem hi)
    have hob2 := hkb.outs _ (List.getElem_mem hi2)
    replace hR := hR.out
    rw [eqF_drop hget hgetb] at hR
    generalize a.outs[i] = p at hget hob hR
    generalize b.outs[i] = q at hgetb hob2 hR
    obtain ⟨pn, pd⟩ := p
    obtain ⟨qn, qd⟩ := q
    simp only at hob hob2
    obtain ⟨m, rfl⟩ : ∃ m : Nat, pd = m := ⟨pd.toNat, by omega⟩
    obtain ⟨k, rfl⟩ : ∃ m : Nat, qd = m := ⟨qd.toNat, by omega⟩
    have hm : m < a.nodes.length := by omega
    have hk : k < b.nodes.length := by omega
    have g1 : a.nodes[m]? = some a.nodes[m] := by simp [hm]
    have g2 : b.nodes[k]? = some b.nodes[k] := by simp [hk]
    unfold outAs at hR
    simp only [widthAt_get g1, widthAt_get g2] at hR
    generalize a.nodes[m] = x at g1 hR
    generalize b.nodes[k] = y at g2 hR
    have hw := add1 i a.outs.length hi (by omega)
    simp only [cellsNetl]
    clear hka hkb hl hab hi2 hob hob2 hm hk
    by_cases h : pn = qn
    · have d : decide (pn = qn) = true := decide_eq_true h
      rw [decide_eq_true h, Bool.true_and] at hR
      clear h
      by_cases h2' : x.width = y.width
      · have d2 : (decide ¬ x.width = y.width) = false := by simp [h2']
        rw [decide_eq_true h2', Bool.true_and] at hR
        replace hR := Kp.mk hR
        clear h2'
        conv => arg 3; whnf
        repeat' first
         | (apply z50 (id := 12) (ord := [0, 1, 2, 3, 4, 5, 6, 7, 8, 9, 10, 11, 12, 13, 14, 15, 16, 17, 18, 19, 20, 21, 22, 23, 24, 25, 26, 27, 28, 29, 30, 31, 32, 33, 34, 35, 36, 37]) <;> first | kernel_rfl | skip)
         | (refine zs ?_; repeat' first | apply zs0 | apply zs2 | (intro hc; try have hq := dq hc)) | fail
        exact ⟨by (simp only [seval, push_cast, *] <;> rfl), by (simp only [seval, push_cast, *] <;> rfl), by (simp only [seval, push_cast, *] <;> rfl), by (simp only [seval, push_cast, *] <;> rfl), hR⟩
      · have d2 : (decide ¬ x.width = y.width) = true := by simp [h2']
        rw [decide_eq_false h2', Bool.false_and] at hR
        replace hR := Kp.mk hR
        clear h2'
        conv => arg 3; whnf
        repeat' first
         | (apply z50 (id := 12) (ord := [0, 1, 2, 3, 4, 5, 6, 7, 8, 9, 10, 11, 12, 13, 14, 15, 16, 17, 18, 19, 20, 21, 22, 23, 24, 25, 26, 27, 28, 29, 30, 31, 32, 33, 34, 35, 36, 37]) <;> first | kernel_rfl | skip)
         | (refine zs ?_; repeat' first | apply zs0 | apply zs2 | (intro hc; try have hq := dq hc)) | fail
        exact ⟨by (simp only [seval, push_cast, *] <;> rfl), .inr ⟨rfl, by (simp only [seval, push_cast, *] <;> rfl), hR.out.symm⟩⟩
    · have d : decide (pn = qn) = false := decide_eq_false h
      rw [decide_eq_false h, Bool.false_and, Bool.false_and] at hR
      replace hR := Kp.mk hR
      clear h
      conv => arg 3; whnf
      repeat' first
       | (apply z50 (id := 12) (ord := [0, 1, 2, 3, 4, 5, 6, 7, 8, 9, 10, 11, 12, 13, 14, 15, 16, 17, 18, 19, 20, 21, 22, 23, 24, 25, 26, 27, 28, 29, 30, 31, 32, 33, 34, 35, 36, 37]) <;> first | kernel_rfl | skip)
       | (refine zs ?_; repeat' first | apply zs0 | apply zs2 | (intro hc; try have hq := dq hc)) | fail
      exact ⟨by (simp only [seval, push_cast, *] <;> rfl), .inr ⟨rfl, by (simp only [seval, push_cast, *] <;> rfl), hR.out.symm⟩⟩
  · rintro ρ H' ⟨rfl, h2, h3, h7, hR⟩
    replace hR := hR.out
    rw [List.drop_length, hab, List.drop_length] at hR
    replace hR : Kp (true = R) := ⟨hR⟩
    simp only [cellsNetl]
    clear hka hkb hl
    have hab2 : decide ((a.outs.length : Int) < (a.outs.length : Int)) = false := decide_eq_false (by omega)
    clear hab
    conv => arg 3; whnf
    repeat' first
     | (apply z50 (id := 12) (ord := [0, 1, 2, 3, 4, 5, 6, 7, 8, 9, 10, 11, 12, 13, 14, 15, 16, 17, 18, 19, 20, 21, 22, 23, 24, 25, 26, 27, 28, 29, 30, 31, 32, 33, 34, 35, 36, 37]) <;> first | kernel_rfl | skip)
     | (refine zs ?_; repeat' first | apply zs0 | apply zs2 | (intro hc; try have hq := dq hc)) | fail
    exact ⟨by (simp only [seval, push_cast, *] <;> rfl), .inl ⟨rfl, hR.out.symm⟩⟩

theorem rf_twoErr (bs : List Nat) (H : Heap) (a b : Netl) (hSa : Small a) (hSb : Small b) : callw X bs 108 [encNetl a, encNetl b] H = some (.int .i64 (twoErrS a b), H) := by
  refine call_at (rs := [.tmp 4]) (N := 78) (fn := Tryz.f108) xk108 xf108 rfl rfl rfl (by simp only [seval, push_cast, List.map_cons, List.map_nil, V.norm, norm1]; rfl) ?_
  have t1 := fun bs H => rf_err bs H a hSa
  have t2 := fun bs H => rf_err bs H b hSb
  rw [← checkNet_same a] at t1
  rw [← checkNet_same b] at t2
  unfold twoErrS
  by_cases ha : (checkNetS a).2 = 0
  case neg =>
    rw [if_pos ha]
    simp only [encNetl, cellsNetl] at t1 t2
    generalize (checkNetS a).2 = c at t1 ha ⊢
    clear hSa hSb
    repeat' first
     | (apply z50 (id := 12) (ord := [0, 1, 2, 3, 4, 5, 6, 7, 8, 9, 10, 11, 12, 13, 14, 15, 16, 17, 18, 19, 20, 21, 22, 23, 24, 25, 26, 27, 28, 29, 30, 31, 32, 33, 34, 35, 36, 37]) <;> first | kernel_rfl | skip)
     | (refine zs ?_; repeat' first | apply zs0 | apply zs2 | (intro hc; try have hq := dq hc)) | fail
  rw [if_neg (by simpa using ha)]
  by_cases hb : (checkNetS b).2 = 0
  case neg =>
    rw [if_pos hb]
    rw [ha] at t1
    simp only [encNetl, cellsNetl] at t1 t2
    generalize (checkNetS b).2 = c at t2 hb ⊢
    clear hSa hSb ha
    repeat' first
     | (apply z50 (id := 12) (ord := [0, 1, 2, 3, 4, 5, 6, 7, 8, 9, 10, 11, 12, 13, 14, 15, 16, 17, 18, 19, 20, 21, 22, 23, 24, 25, 26, 27, 28, 29, 30, 31, 32, 33, 34, 35, 36, 37]) <;> first | kernel_rfl | skip)
     | (refine zs ?_; repeat' first | apply zs0 | apply zs2 | (intro hc; try have hq := dq hc)) | fail
  rw [if_neg (by simpa using hb)]
  rw [ha] at t1
  rw [hb] at t2
  have t3 := fun bs H => bs_samePorts bs H a.inputs b.inputs (by have := hSa.inputs; omega) (by have := hSb.inputs; omega)
  unfold clashS
  by_cases hp : a.inputs = b.inputs
  case neg =>
    rw [decide_eq_false hp] at t3
    rw [decide_eq_false hp, Bool.false_and, if_neg (by simp)]
    simp only [encNetl, cellsNetl] at t1 t2
    clear hSa hSb ha hb hp
    repeat' first
     | (apply z50 (id := 12) (ord := [0, 1, 2, 3, 4, 5, 6, 7, 8, 9, 10, 11, 12, 13, 14, 15, 16, 17, 18, 19, 20, 21, 22, 23, 24, 25, 26, 27, 28, 29, 30, 31, 32, 33, 34, 35, 36, 37]) <;> first | kernel_rfl | skip)
     | (refine zs ?_; repeat' first | apply zs0 | apply zs2 | (intro hc; try have hq := dq hc)) | fail
  rw [decide_eq_true hp] at t3
  rw [decide_eq_true hp, Bool.true_and]
  by_cases hl : a.outs.length = b.outs.length
  case neg =>
    have d : (decide ¬ (a.outs.length : Int) = (b.outs.length : Int)) = true := decide_eq_true (by omega)
    rw [eqF_len hl, if_neg (by simp)]
    simp only [encNetl, cellsNetl] at t1 t2
    clear hSa hSb ha hb hp hl
    repeat' first
     | (apply z50 (id := 12) (ord := [0, 1, 2, 3, 4, 5, 6, 7, 8, 9, 10, 11, 12, 13, 14, 15, 16, 17, 18, 19, 20, 21, 22, 23, 24, 25, 26, 27, 28, 29, 30, 31, 32, 33, 34, 35, 36, 37]) <;> first | kernel_rfl | skip)
     | (refine zs ?_; repeat' first | apply zs0 | apply zs2 | (intro hc; try have hq := dq hc)) | fail
  have d : (decide ¬ (a.outs.length : Int) = (b.outs.length : Int)) = false := by simp [hl]
  have k1 := fun bs ρ => te_outs a b (net_ok ha) (net_ok hb) hSa.outs hl H (eqF (outAs a b) a.outs b.outs) bs 0 ρ (H ++ [.cells (cellsNetl a), .cells (cellsNetl b)]) (by omega)
  have e0 : Kp (eqF (outAs a b) (a.outs.drop 0) (b.outs.drop 0) = eqF (outAs a b) a.outs b.outs) := ⟨by rw [List.drop_zero, List.drop_zero]⟩
  simp only [encNetl, cellsNetl] at t1 t2 k1
  generalize eqF (outAs a b) a.outs b.outs = R at k1 e0 ⊢
  clear hSa hSb ha hb hp hl
  repeat' first
   | (apply z50 (id := 12) (ord := [0, 1, 2, 3, 4, 5, 6, 7, 8, 9, 10, 11, 12, 13, 14, 15, 16, 17, 18, 19, 20, 21, 22, 23, 24, 25, 26, 27, 28, 29, 30, 31, 32, 33, 34, 35, 36, 37]) <;> first | kernel_rfl | skip)
   | (refine zs ?_; repeat' first | apply zs0 | apply zs2 | (intro hc; try have hq := dq hc)) | fail
  refine lp_then (lp_any (c := loopAt Tryz.f108 0) rfl (k1 _ _ ⟨trivial, by (simp only [seval, push_cast, *] <;> rfl), by (simp only [seval, push_cast, *] <;> rfl), by (simp only [seval, push_cast, *] <;> rfl), e0⟩)) ?_
  clear k1
  rintro ex ρ' H' ⟨rfl, ⟨rfl, rfl⟩ | ⟨rfl, h2, rfl⟩⟩ hf
  · clear hf
    repeat' first
     | (apply z50 (id := 12) (ord := [0, 1, 2, 3, 4, 5, 6, 7, 8, 9, 10, 11, 12, 13, 14, 15, 16, 17, 18, 19, 20, 21, 22, 23, 24, 25, 26, 27, 28, 29, 30, 31, 32, 33, 34, 35, 36, 37]) <;> first | kernel_rfl | skip)
     | (refine zs ?_; repeat' first | apply zs0 | apply zs2 | (intro hc; try have hq := dq hc)) | fail
  · clear hf
    repeat' first
     | (apply z50 (id := 12) (ord := [0, 1, 2, 3, 4, 5, 6, 7, 8, 9, 10, 11, 12, 13, 14, 15, 16, 17, 18, 19, 20, 21, 22, 23, 24, 25, 26, 27, 28, 29, 30, 31, 32, 33, 34, 35, 36, 37]) <;> first | kernel_rfl | skip)
     | (refine zs ?_; repeat' first | apply zs0 | apply zs2 | (intro hc; try have hq := dq hc)) | fail

def encTwo (a b : Netl) : V := .agg (cellsNetl a ++ cellsNetl b)
attribute [push_cast] encTwo
theorem la_err (bs : List Nat) (H : Heap) (a b : Netl) (ins : List (List Int)) (hSa : Small a) (hSb : Small b) (hin : ins.length ≤ 1000) (hil : ∀ x ∈ ins, x.length ≤ 100000) : callw X bs 36 [encTwo a b, .list (ins.map encInts)] H = some (.int .i64 (bothErrS a b ins), H) := by
  refine call_at (rs := [.tmp 4]) (N := 18) (fn := Tryz.f36) xk36 xf36 rfl rfl rfl (by simp only [seval, push_cast, List.map_cons, List.map_nil, V.norm, norm1]; rfl) ?_
  have t1 := fun bs H => rf_twoErr bs H a b hSa hSb
  simp only [encNetl, cellsNetl] at t1
  unfold bothErrS
  by_cases h0 : twoErrS a b = 0
  · rw [if_neg (by simpa using h0)]
    have hk : NetOk a := net_ok (by
      unfold twoErrS at h0
      split at h0
      · rename_i h; exact absurd h0 h
      · rename_i h; simpa using h)
    have t2 := fun bs H => rf_listsErr bs H a ins hSa hk hin hil
    simp only [encNetl, cellsNetl] at t2
    rw [h0] at t1
    clear h0 hk hSa hSb hin hil
    all_goals try (refine zs ?_; repeat' first | apply zs0 | apply zs2 | (intro hc; try have hq := dq hc))
  · rw [if_pos h0]
    generalize twoErrS a b = c at t1 h0 ⊢
    clear hSa hSb hin hil
    all_goals try (refine zs ?_; repeat' first | apply zs0 | apply zs2 | (intro hc; try have hq := dq hc))

end Go.E
/- Contracts of the references, in E: which pairs are a proof; the law's guards. Own work. -/
namespace Go.E
open Go.Proofs
set_option maxRecDepth 100000
set_option maxHeartbeats 4000000

def wsum : List Reg → Int
  | [] => 0
  | r :: t => r.width + wsum t
theorem wsum_snoc (l : List Reg) (r : Reg) : wsum (l ++ [r]) = wsum l + r.width := by
  induction l with
  | nil => simp [wsum]
  | cons x t ih => simp only [List.cons_append, wsum, ih]; omega
theorem wsum_bd {l : List Reg} (h : ∀ r ∈ l, 1 ≤ r.width ∧ r.width ≤ 16) : 0 ≤ wsum l ∧ wsum l ≤ 16 * l.length := by
  induction l with
  | nil => simp [wsum]
  | cons x t ih =>
    have h1 := h x (by simp)
    have h2 := ih fun r hr => h r (by simp [hr])
    simp only [wsum, List.length_cons]
    omega
def lightS (a b : Netl) (ins : List (List Int)) : Bool := decide (wsum a.regs + wsum b.regs ≤ 8) && (decide ((ins.length : Int) ≤ 4) && (decide ((a.nodes.length : Int) ≤ 60) && decide ((b.nodes.length : Int) ≤ 60)))
section
variable (a b : Netl) (H : Heap)
theorem li_loop0 (hw : ∀ r ∈ a.regs, 1 ≤ r.width ∧ r.width ≤ 16) (hl : a.regs.length ≤ 1000) (bs : List Nat) : ∀ i ρ H', i ≤ a.regs.length → (H' = H ++ [.cells (cellsNetl a ++ cellsNetl b)] ∧ ρ 2 = .ptr H.length 0 ∧ ρ 5 = .int .i64 (wsum (a.regs.take i)) ∧ ρ 6 = .int .i64 i) →
      Lp X ⟨63, bs⟩ (loopAt Tryz.f37 0) ρ H' fun ex ρ' H' => H' = H ++ [.cells (cellsNetl a ++ cellsNetl b)] ∧ ex = .exit 0 ∧ ρ' 5 = .int .i64 (wsum a.regs) := by
  refine loop_up ?_ ?_
  · rintro i ρ H' hi ⟨rfl, h2, h5, h6⟩
    have hget : a.regs[i]? = some a.regs[i] := by simp [hi]
    have hx := hw _ (List.getElem_mem hi)
    have hb := wsum_bd (l := a.regs.take i) fun r hr => hw r (List.mem_of_mem_take hr)
    have htk : a.regs.take (i + 1) = a.regs.take i ++ [a.regs[i]] := by rw [List.take_add_one, hget]; rfl
    have hs : Kp (wsum (a.regs.take (i + 1)) = wsum (a.regs.take i) + (a.regs[i]).width) := ⟨by rw [htk, wsum_snoc]⟩
    have hlt : (a.regs.take i).length ≤ 1000 := by simp; omega
    generalize a.regs[i] = r at hget hx hs htk
    generalize wsum (a.regs.take i) = s at h5 hb hs
    have hwr : IntKind.i64.wrap (s + r.width) = s + r.width := by rw [wrap64] <;> omega
    have hw1 := add1 i a.regs.length hi (by omega)
    simp only [cellsNetl, List.cons_append, List.nil_append]
    clear hx hb htk hlt hw
    conv => arg 3; whnf
    all_goals try (refine zs ?_; repeat' first | apply zs0 | apply zs2 | (intro hc; try have hq := dq hc))
    exact ⟨by (simp only [seval, push_cast, *] <;> rfl), by (simp only [seval, push_cast, *] <;> rfl), by rw [hs.out]; (simp only [seval, push_cast, *] <;> rfl), by (simp only [seval, push_cast, *] <;> rfl)⟩
  · rintro ρ H' ⟨rfl, h2, h5, h6⟩
    rw [List.take_length] at h5
    simp only [cellsNetl, List.cons_append, List.nil_append]
    clear hw
    conv => arg 3; whnf
    all_goals try (refine zs ?_; repeat' first | apply zs0 | apply zs2 | (intro hc; try have hq := dq hc))
    exact ⟨by (simp only [seval, push_cast, *] <;> rfl), rfl, by (simp only [seval, push_cast, *] <;> rfl)⟩
theorem li_loop1 (hw0 : ∀ r ∈ a.regs, 1 ≤ r.width ∧ r.width ≤ 16) (hl0 : a.regs.length ≤ 1000) (hw : ∀ r ∈ b.regs, 1 ≤ r.width ∧ r.width ≤ 16) (hl : b.regs.length ≤ 1000) (bs : List Nat) : ∀ i ρ H', i ≤ b.regs.length → (H' = H ++ [.cells (cellsNetl a ++ cellsNetl b)] ∧ ρ 2 = .ptr H.length 0 ∧ ρ 5 = .int .i64 (wsum a.regs + wsum (b.regs.take i)) ∧ ρ 7 = .int .i64 i) →
      Lp X ⟨63, bs⟩ (loopAt Tryz.f37 1) ρ H' fun ex ρ' H' => H' = H ++ [.cells (cellsNetl a ++ cellsNetl b)] ∧ ex = .exit 2 ∧ ρ' 5 = .int .i64 (wsum a.regs + wsum b.regs) := by
  have hb0 := wsum_bd hw0
  refine loop_up ?_ ?_
  · rintro i ρ H' hi ⟨rfl, h2, h5, h7⟩
    have hget : b.regs[i]? = some b.regs[i] := by simp [hi]
    have hx := hw _ (List.getElem_mem hi)
    have hb := wsum_bd (l := b.regs.take i) fun r hr => hw r (List.mem_of_mem_take hr)
    have htk : b.regs.take (i + 1) = b.regs.take i ++ [b.regs[i]] := by rw [List.take_add_one, hget]; rfl
    have hs : Kp (wsum a.regs + wsum (b.regs.take (i + 1)) = wsum a.regs + wsum (b.regs.take i) + (b.regs[i]).width) := ⟨by rw [htk, wsum_snoc]; omega⟩
    have hlt : (b.regs.take i).length ≤ 1000 := by simp; omega
    generalize b.regs[i] = r at hget hx hs htk
    have hsb : -1 ≤ wsum a.regs + wsum (b.regs.take i) ∧ wsum a.regs + wsum (b.regs.take i) ≤ 100000 := by omega
    generalize wsum a.regs + wsum (b.regs.take i) = s at h5 hsb hs
    have hwr : IntKind.i64.wrap (s + r.width) = s + r.width := by rw [wrap64] <;> omega
    have hw1 := add1 i b.regs.length hi (by omega)
    simp only [cellsNetl, List.cons_append, List.nil_append]
    clear hx hb htk hlt hw hb0 hw0 hsb
    conv => arg 3; whnf
    all_goals try (refine zs ?_; repeat' first | apply zs0 | apply zs2 | (intro hc; try have hq := dq hc))
    exact ⟨by (simp only [seval, push_cast, *] <;> rfl), by (simp only [seval, push_cast, *] <;> rfl), by rw [hs.out]; (simp only [seval, push_cast, *] <;> rfl), by (simp only [seval, push_cast, *] <;> rfl)⟩
  · rintro ρ H' ⟨rfl, h2, h5, h7⟩
    rw [List.take_length] at h5
    simp only [cellsNetl, List.cons_append, List.nil_append]
    clear hw hb0 hw0
    conv => arg 3; whnf
    all_goals try (refine zs ?_; repeat' first | apply zs0 | apply zs2 | (intro hc; try have hq := dq hc))
    exact ⟨by (simp only [seval, push_cast, *] <;> rfl), rfl, by (simp only [seval, push_cast, *] <;> rfl)⟩
end
theorem regs_w {n : Netl} (hk : NetOk n) : ∀ r ∈ n.regs, 1 ≤ r.width ∧ r.width ≤ 16 := fun r hr => rgW_1 hk r.width (List.mem_map.2 ⟨r, hr, rfl⟩)
theorem la_light (bs : List Nat) (H : Heap) (a b : Netl) (ins : List (List Int)) (hSa : Small a) (hSb : Small b) (hka : NetOk a) (hkb : NetOk b) : callw X bs 37 [encTwo a b, .list (ins.map encInts)] H = some (.bool (lightS a b ins), H) := by
  refine call_at (rs := [.tmp 4]) (N := 63) (fn := Tryz.f37) xk37 xf37 rfl rfl rfl (by simp only [seval, push_cast, List.map_cons, List.map_nil, V.norm, norm1]; rfl) ?_
  have k0 := fun bs ρ => li_loop0 a b H (regs_w hka) hSa.regs bs 0 ρ (H ++ [.cells (cellsNetl a ++ cellsNetl b)]) (by omega)
  have k1 := fun bs ρ => li_loop1 a b H (regs_w hka) hSa.regs (regs_w hkb) hSb.regs bs 0 ρ (H ++ [.cells (cellsNetl a ++ cellsNetl b)]) (by omega)
  have e0 : Kp (wsum (a.regs.take 0) = 0) := ⟨rfl⟩
  have e1 : Kp (wsum a.regs + wsum (b.regs.take 0) = wsum a.regs) := ⟨by show wsum a.regs + 0 = _; omega⟩
  unfold lightS
  simp only [cellsNetl, List.cons_append, List.nil_append] at k0 k1
  rw [e0.out] at k0
  rw [e1.out] at k1
  clear e0 e1 hSa hSb hka hkb
  generalize wsum a.regs + wsum b.regs = s at k1 ⊢
  generalize wsum a.regs = s0 at k0 k1
  all_goals try (refine zs ?_; repeat' first | apply zs0 | apply zs2 | (intro hc; try have hq := dq hc))
  refine lp_then (lp_any (c := loopAt Tryz.f37 0) rfl (k0 _ _ ⟨trivial, by (simp only [seval, push_cast, *] <;> rfl), by (simp only [seval, push_cast, *] <;> rfl), by (simp only [seval, push_cast, *] <;> rfl)⟩)) ?_
  clear k0
  rintro ex ρ' H' ⟨rfl, rfl, h5⟩ hf
  have f1 := hf 1 rfl
  have f2 := hf 2 rfl
  simp only [seval, push_cast] at f1 f2
  clear hf
  all_goals try (refine zs ?_; repeat' first | apply zs0 | apply zs2 | (intro hc; try have hq := dq hc))
  refine lp_then (lp_any (c := loopAt Tryz.f37 1) rfl (k1 _ _ ⟨trivial, by (simp only [seval, push_cast, *] <;> rfl), by (simp only [seval, push_cast, *] <;> rfl), by (simp only [seval, push_cast, *] <;> rfl)⟩)) ?_
  clear k1
  rintro ex ρ'' H' ⟨rfl, rfl, g5⟩ hf
  have g1 := hf 1 rfl
  have g2 := hf 2 rfl
  simp only [seval, push_cast] at g1 g2
  rw [f1] at g1
  rw [f2] at g2
  clear hf f1 f2 h5
  cases c1 : decide (s ≤ 8)
  · all_goals try (refine zs ?_; repeat' first | apply zs0 | apply zs2 | (intro hc; try have hq := dq hc))
  cases c2 : decide ((ins.length : Int) ≤ 4)
  · all_goals try (refine zs ?_; repeat' first | apply zs0 | apply zs2 | (intro hc; try have hq := dq hc))
  cases c3 : decide ((a.nodes.length : Int) ≤ 60)
  · all_goals try (refine zs ?_; repeat' first | apply zs0 | apply zs2 | (intro hc; try have hq := dq hc))
  cases c4 : decide ((b.nodes.length : Int) ≤ 60)
  · all_goals try (refine zs ?_; repeat' first | apply zs0 | apply zs2 | (intro hc; try have hq := dq hc))
  · all_goals try (refine zs ?_; repeat' first | apply zs0 | apply zs2 | (intro hc; try have hq := dq hc))

end Go.E
/- Contracts of the references, in E: CheckSame. Own work. -/
namespace Go.E
open Go.Proofs
set_option maxRecDepth 100000
set_option maxHeartbeats 4000000
section
variable (a b : Netl) (ins : List (List Int)) (l : List NPair) (H : Heap)
theorem cs_ord (hSa : Small a) (hSb : Small b) (hka : NetOk a) (hkb : NetOk b) (hll : l.length ≤ 1000) (hpl : ∀ x ∈ l, PLen x) (R : Int × Int) (bs : List Nat) : ∀ i ρ H', i ≤ l.length →
      (H' = H ++ [.cells (cellsNetl a), .cells (cellsNetl b)] ∧ ρ 3 = .list (l.map encPair) ∧ ρ 4 = .ptr H.length 0 ∧ ρ 5 = .ptr (H.length + 1) 0 ∧ ρ 10 = .int .i64 i ∧ Kp (eachP (ordErrS a b l) i (l.drop i) = R)) →
      Lp X ⟨133, bs⟩ (loopAt Tryz.f40 0) ρ H' fun ex ρ' H' => H' = H ++ [.cells (cellsNetl a), .cells (cellsNetl b)] ∧ ((ex = .exit 0 ∧ R = (0, 0)) ∨ (ex = .ret ∧ ρ' 8 = .int .i64 R.1 ∧ ρ' 9 = .int .i64 R.2 ∧ R.2 ≠ 0)) := by
  refine loop_up ?_ ?_
  · rintro i ρ H' hi ⟨rfl, h3, h4, h5, h10, hR⟩
    have hget : l[i]? = some l[i] := by simp [hi]
    have hp := hpl _ (List.getElem_mem hi)
    replace hR := hR.out
    rw [drop_cons hget, eachP] at hR
    generalize l[i] = p at hget hp hR
    have t1 := fun bs H => rf_stateErr bs H a p.a hSa.inputs hSa.regs hp.a (fun w hw => by have := rgW_1 hka w hw; omega)
    have t2 := fun bs H => rf_stateErr bs H b p.b hSb.inputs hSb.regs hp.b (fun w hw => by have := rgW_1 hkb w hw; omega)
    simp only [encNetl, cellsNetl] at t1 t2
    generalize hrest : eachP (ordErrS a b l) (i + 1) (l.drop (i + 1)) = rest at hR
    unfold ordErrS at hR
    generalize stErrS a p.a = s1 at t1 hR
    generalize stErrS b p.b = s2 at t2 hR
    have hw := add1 i l.length hi (by omega)
    simp only [cellsNetl]
    by_cases z1 : s1 = 0
    case neg =>
      have g : Kp (((i : Int), s1) = R ∧ s1 ≠ 0) := ⟨by simpa [firstL, z1] using hR, z1⟩
      have d : (decide ¬ s1 = 0) = true := decide_eq_true z1
      clear hR hrest z1 hSa hSb hka hkb hpl hp t2
      conv => arg 3; whnf
      repeat' first
       | (apply z50 (id := 6) (ord := [0, 1, 2, 3, 4, 5, 6, 7]) <;> first | kernel_rfl | skip)
       | (apply z50 (id := 9) (ord := [0, 1, 2, 3, 4, 5, 6, 7]) <;> first | kernel_rfl | skip)
       | (apply z50 (id := 12) (ord := [0, 1, 2, 3, 4, 5, 6, 7, 8, 9, 10, 11, 12, 13, 14]) <;> first | kernel_rfl | skip)
       | (apply z51 (id := 14) (ord := [0, 1, 3, 2, 4, 5, 6, 7]) (ps := [(2, 3)]) <;> first | kernel_rfl | skip)
       | (apply z50 (id := 22) (ord := [0, 1, 2, 3, 4, 5, 6, 7, 8, 9, 10]) <;> first | kernel_rfl | skip)
       | (apply z50 (id := 24) (ord := [0, 1, 2, 3, 4, 5, 6, 7, 8, 9, 10, 11, 12, 13, 14, 15]) <;> first | kernel_rfl | skip)
       | (apply z50 (id := 25) (ord := [0, 1, 2, 3, 4, 5, 6, 7, 8, 9, 10, 11, 12, 13, 14, 15]) <;> first | kernel_rfl | skip)
       | (refine zs ?_; repeat' first | apply zs0 | apply zs2 | (intro hc; try have hq := dq hc)) | fail
      obtain ⟨rfl, g2⟩ := g.out
      exact ⟨by (simp only [seval, push_cast, *] <;> rfl), .inr ⟨rfl, by (simp only [seval, push_cast, *] <;> rfl), by (simp only [seval, push_cast, *] <;> rfl), g2⟩⟩
    subst z1
    by_cases z2 : s2 = 0
    case neg =>
      have g : Kp (((i : Int), s2) = R ∧ s2 ≠ 0) := ⟨by simpa [firstL, z2] using hR, z2⟩
      have d : (decide ¬ s2 = 0) = true := decide_eq_true z2
      clear hR hrest z2 hSa hSb hka hkb hpl hp
      conv => arg 3; whnf
      repeat' first
       | (apply z50 (id := 6) (ord := [0, 1, 2, 3, 4, 5, 6, 7]) <;> first | kernel_rfl | skip)
       | (apply z50 (id := 9) (ord := [0, 1, 2, 3, 4, 5, 6, 7]) <;> first | kernel_rfl | skip)
       | (apply z50 (id := 12) (ord := [0, 1, 2, 3, 4, 5, 6, 7, 8, 9, 10, 11, 12, 13, 14]) <;> first | kernel_rfl | skip)
       | (apply z51 (id := 14) (ord := [0, 1, 3, 2, 4, 5, 6, 7]) (ps := [(2, 3)]) <;> first | kernel_rfl | skip)
       | (apply z50 (id := 22) (ord := [0, 1, 2, 3, 4, 5, 6, 7, 8, 9, 10]) <;> first | kernel_rfl | skip)
       | (apply z50 (id := 24) (ord := [0, 1, 2, 3, 4, 5, 6, 7, 8, 9, 10, 11, 12, 13, 14, 15]) <;> first | kernel_rfl | skip)
       | (apply z50 (id := 25) (ord := [0, 1, 2, 3, 4, 5, 6, 7, 8, 9, 10, 11, 12, 13, 14, 15]) <;> first | kernel_rfl | skip)
       | (refine zs ?_; repeat' first | apply zs0 | apply zs2 | (intro hc; try have hq := dq hc)) | fail
      obtain ⟨rfl, g2⟩ := g.out
      exact ⟨by (simp only [seval, push_cast, *] <;> rfl), .inr ⟨rfl, by (simp only [seval, push_cast, *] <;> rfl), by (simp only [seval, push_cast, *] <;> rfl), g2⟩⟩
    subst z2
    rcases Nat.eq_zero_or_pos i with hi0 | hi0
    · have g : Kp (rest = R) := ⟨by simpa [firstL, hi0] using hR⟩
      have d0 : decide ((i : Int) > 0) = false := decide_eq_false (by omega)
      clear hR hrest hSa hSb hka hkb hpl hp hi0
      conv => arg 3; whnf
      repeat' first
       | (apply z50 (id := 6) (ord := [0, 1, 2, 3, 4, 5, 6, 7]) <;> first | kernel_rfl | skip)
       | (apply z50 (id := 9) (ord := [0, 1, 2, 3, 4, 5, 6, 7]) <;> first | kernel_rfl | skip)
       | (apply z50 (id := 12) (ord := [0, 1, 2, 3, 4, 5, 6, 7, 8, 9, 10, 11, 12, 13, 14]) <;> first | kernel_rfl | skip)
       | (apply z51 (id := 14) (ord := [0, 1, 3, 2, 4, 5, 6, 7]) (ps := [(2, 3)]) <;> first | kernel_rfl | skip)
       | (apply z50 (id := 22) (ord := [0, 1, 2, 3, 4, 5, 6, 7, 8, 9, 10]) <;> first | kernel_rfl | skip)
       | (apply z50 (id := 24) (ord := [0, 1, 2, 3, 4, 5, 6, 7, 8, 9, 10, 11, 12, 13, 14, 15]) <;> first | kernel_rfl | skip)
       | (apply z50 (id := 25) (ord := [0, 1, 2, 3, 4, 5, 6, 7, 8, 9, 10, 11, 12, 13, 14, 15]) <;> first | kernel_rfl | skip)
       | (refine zs ?_; repeat' first | apply zs0 | apply zs2 | (intro hc; try have hq := dq hc)) | fail
      exact ⟨by (simp only [seval, push_cast, *] <;> rfl), by (simp only [seval, push_cast, *] <;> rfl), by (simp only [seval, push_cast, *] <;> rfl), by (simp only [seval, push_cast, *] <;> rfl), by (simp only [seval, push_cast, *] <;> rfl), g⟩
    · obtain ⟨k, hk⟩ : ∃ k, i = k + 1 := ⟨i - 1, by omega⟩
      have hget2 : l[k]? = some (l[k]'(by omega)) := by simp [show k < l.length by omega]
      have hx := hpl _ (List.mem_of_getElem? hget2)
      have t3 := fun bs H => rf_before bs H (l[k]'(by omega)) p hx hp
      rw [show i - 1 = k by omega, pairAt_get hget2] at hR
      generalize (l[k]'(by omega)) = q at hget2 t3 hR
      simp only [encPair, encInts] at t3
      have hs : IntKind.i64.wrap ((i : Int) - 1) = (k : Int) := by rw [wrap64] <;> omega
      have d0 : decide ((i : Int) > 0) = true := decide_eq_true (by omega)
      have hn0 : ¬ i = 0 := by omega
      cases hb : befP q p with
      | true =>
        rw [hb] at t3
        have g : Kp (rest = R) := ⟨by simpa [firstL, hb] using hR⟩
        clear hR hrest hSa hSb hka hkb hpl hp hx hb hk hn0 hi0
        conv => arg 3; whnf
        repeat' first
         | (apply z50 (id := 6) (ord := [0, 1, 2, 3, 4, 5, 6, 7]) <;> first | kernel_rfl | skip)
         | (apply z50 (id := 9) (ord := [0, 1, 2, 3, 4, 5, 6, 7]) <;> first | kernel_rfl | skip)
         | (apply z50 (id := 12) (ord := [0, 1, 2, 3, 4, 5, 6, 7, 8, 9, 10, 11, 12, 13, 14]) <;> first | kernel_rfl | skip)
         | (apply z51 (id := 14) (ord := [0, 1, 3, 2, 4, 5, 6, 7]) (ps := [(2, 3)]) <;> first | kernel_rfl | skip)
         | (apply z50 (id := 22) (ord := [0, 1, 2, 3, 4, 5, 6, 7, 8, 9, 10]) <;> first | kernel_rfl | skip)
         | (apply z50 (id := 24) (ord := [0, 1, 2, 3, 4, 5, 6, 7, 8, 9, 10, 11, 12, 13, 14, 15]) <;> first | kernel_rfl | skip)
         | (apply z50 (id := 25) (ord := [0, 1, 2, 3, 4, 5, 6, 7, 8, 9, 10, 11, 12, 13, 14, 15]) <;> first | kernel_rfl | skip)
         | (refine zs ?_; repeat' first | apply zs0 | apply zs2 | (intro hc; try have hq := dq hc)) | fail
        exact ⟨by (simp only [seval, push_cast, *] <;> rfl), by (simp only [seval, push_cast, *] <;> rfl), by (simp only [seval, push_cast, *] <;> rfl), by (simp only [seval, push_cast, *] <;> rfl), by (simp only [seval, push_cast, *] <;> rfl), g⟩
      | false =>
        rw [hb] at t3
        have g : Kp (((i : Int), (9 : Int)) = R) := ⟨by simpa [firstL, hb, hn0] using hR⟩
        clear hR hrest hSa hSb hka hkb hpl hp hx hb hk hn0 hi0
        conv => arg 3; whnf
        repeat' first
         | (apply z50 (id := 6) (ord := [0, 1, 2, 3, 4, 5, 6, 7]) <;> first | kernel_rfl | skip)
         | (apply z50 (id := 9) (ord := [0, 1, 2, 3, 4, 5, 6, 7]) <;> first | kernel_rfl | skip)
         | (apply z50 (id := 12) (ord := [0, 1, 2, 3, 4, 5, 6, 7, 8, 9, 10, 11, 12, 13, 14]) <;> first | kernel_rfl | skip)
         | (apply z51 (id := 14) (ord := [0, 1, 3, 2, 4, 5, 6, 7]) (ps := [(2, 3)]) <;> first | kernel_rfl | skip)
         | (apply z50 (id := 22) (ord := [0, 1, 2, 3, 4, 5, 6, 7, 8, 9, 10]) <;> first | kernel_rfl | skip)
         | (apply z50 (id := 24) (ord := [0, 1, 2, 3, 4, 5, 6, 7, 8, 9, 10, 11, 12, 13, 14, 15]) <;> first | kernel_rfl | skip)
         | (apply z50 (id := 25) (ord := [0, 1, 2, 3, 4, 5, 6, 7, 8, 9, 10, 11, 12, 13, 14, 15]) <;> first | kernel_rfl | skip)
         | (refine zs ?_; repeat' first | apply zs0 | apply zs2 | (intro hc; try have hq := dq hc)) | fail
        obtain rfl := g.out
        exact ⟨by (simp only [seval, push_cast, *] <;> rfl), .inr ⟨rfl, by (simp only [seval, push_cast, *] <;> rfl), by (simp only [seval, push_cast, *] <;> rfl), by simp⟩⟩
  · rintro ρ H' ⟨rfl, h3, h4, h5, h10, hR⟩
    replace hR := hR.out
    rw [List.drop_length, eachP] at hR
    replace hR := Kp.mk hR
    simp only [cellsNetl]
    clear hSa hSb hka hkb hpl
    conv => arg 3; whnf
    repeat' first
     | (apply z50 (id := 6) (ord := [0, 1, 2, 3, 4, 5, 6, 7]) <;> first | kernel_rfl | skip)
     | (apply z50 (id := 9) (ord := [0, 1, 2, 3, 4, 5, 6, 7]) <;> first | kernel_rfl | skip)
     | (apply z50 (id := 12) (ord := [0, 1, 2, 3, 4, 5, 6, 7, 8, 9, 10, 11, 12, 13, 14]) <;> first | kernel_rfl | skip)
     | (apply z51 (id := 14) (ord := [0, 1, 3, 2, 4, 5, 6, 7]) (ps := [(2, 3)]) <;> first | kernel_rfl | skip)
     | (apply z50 (id := 22) (ord := [0, 1, 2, 3, 4, 5, 6, 7, 8, 9, 10]) <;> first | kernel_rfl | skip)
     | (apply z50 (id := 24) (ord := [0, 1, 2, 3, 4, 5, 6, 7, 8, 9, 10, 11, 12, 13, 14, 15]) <;> first | kernel_rfl | skip)
     | (apply z50 (id := 25) (ord := [0, 1, 2, 3, 4, 5, 6, 7, 8, 9, 10, 11, 12, 13, 14, 15]) <;> first | kernel_rfl | skip)
     | (refine zs ?_; repeat' first | apply zs0 | apply zs2 | (intro hc; try have hq := dq hc)) | fail
    exact ⟨by (simp only [seval, push_cast, *] <;> rfl), .inl ⟨rfl, hR.out.symm⟩⟩

theorem cs_in (i : Nat) (p : NPair) (hget : l[i]? = some p) (hra : a.regs.length ≤ 1000) (hrb : b.regs.length ≤ 1000) (hin : ins.length ≤ 1000) (hck : ∀ x ∈ ins, CkOk a x p.a ∧ CkOk b x p.b) (hll : l.length ≤ 1000) (hpl : ∀ x ∈ l, PLen x) (R : Int) (bs : List Nat) : ∀ k ρ H', k ≤ ins.length →
      (H' = H ++ [.cells (cellsNetl a), .cells (cellsNetl b)] ∧ ρ 2 = .list (ins.map encInts) ∧ ρ 3 = .list (l.map encPair) ∧ ρ 4 = .ptr H.length 0 ∧ ρ 5 = .ptr (H.length + 1) 0 ∧ ρ 13 = .int .i64 i ∧ ρ 14 = .int .i64 k ∧ Kp ((eachP (fun _ x => oneErrS a b l p x) k (ins.drop k)).2 = R)) →
      Lp X ⟨133, bs⟩ (loopAt Tryz.f40 2) ρ H' fun ex ρ' H' => H' = H ++ [.cells (cellsNetl a), .cells (cellsNetl b)] ∧ ((ex = .exit 4 ∧ R = 0) ∨ (ex = .ret ∧ ρ' 8 = .int .i64 i ∧ ρ' 9 = .int .i64 R ∧ R ≠ 0)) := by
  refine loop_up ?_ ?_
  · rintro k ρ H' hk ⟨rfl, h2, h3, h4, h5, h13, h14, hR⟩
    have hget2 : ins[k]? = some ins[k] := by simp [hk]
    have hx := hck ins[k] (List.getElem_mem hk)
    generalize ins[k] = x at hget2 hx
    have hw := add1 k ins.length hk (by omega)
    have t1 := fun bs H => rf_differ bs H a b x p hx.1 hx.2
    have t2 := fun bs H => bs_netStep bs H a x p.a hx.1.hS hx.1.hk hx.1.hl hx.1.hr
    have t3 := fun bs H => bs_netStep bs H b x p.b hx.2.hS hx.2.hk hx.2.hl hx.2.hr
    have t4 := fun bs H => rf_hasPair bs H l (nextP a b p x) (by omega) hpl (plen_next hra hrb)
    replace hR := hR.out
    rw [drop_cons hget2, eachP] at hR
    unfold oneErrS at hR
    simp only [encNetl, cellsNetl, encPair, encInts] at t1 t2 t3 t4
    simp only [cellsNetl]
    clear hx hck hpl
    by_cases e1 : (stepN a x p.a).1 = (stepN b x p.b).1
    case neg =>
      rw [decide_eq_false e1] at t1
      have g : Kp (R = 19) := ⟨by simpa [e1] using hR.symm⟩
      clear hR e1 t2 t3 t4
      conv => arg 3; whnf
      repeat' first
       | (apply z50 (id := 6) (ord := [0, 1, 2, 3, 4, 5, 6, 7]) <;> first | kernel_rfl | skip)
       | (apply z50 (id := 9) (ord := [0, 1, 2, 3, 4, 5, 6, 7]) <;> first | kernel_rfl | skip)
       | (apply z50 (id := 12) (ord := [0, 1, 2, 3, 4, 5, 6, 7, 8, 9, 10, 11, 12, 13, 14]) <;> first | kernel_rfl | skip)
       | (apply z51 (id := 14) (ord := [0, 1, 3, 2, 4, 5, 6, 7]) (ps := [(2, 3)]) <;> first | kernel_rfl | skip)
       | (apply z50 (id := 22) (ord := [0, 1, 2, 3, 4, 5, 6, 7, 8, 9, 10]) <;> first | kernel_rfl | skip)
       | (apply z50 (id := 24) (ord := [0, 1, 2, 3, 4, 5, 6, 7, 8, 9, 10, 11, 12, 13, 14, 15]) <;> first | kernel_rfl | skip)
       | (apply z50 (id := 25) (ord := [0, 1, 2, 3, 4, 5, 6, 7, 8, 9, 10, 11, 12, 13, 14, 15]) <;> first | kernel_rfl | skip)
       | (refine zs ?_; repeat' first | apply zs0 | apply zs2 | (intro hc; try have hq := dq hc)) | fail
      obtain rfl := g.out
      exact ⟨by (simp only [seval, push_cast, *] <;> rfl), .inr ⟨rfl, by (simp only [seval, push_cast, *] <;> rfl), by (simp only [seval, push_cast, *] <;> rfl), by simp⟩⟩
    rw [decide_eq_true e1] at t1
    by_cases e2 : nextP a b p x ∈ l
    · rw [decide_eq_true e2] at t4
      have g : Kp ((eachP (fun _ x => if (stepN a x p.a).1 = (stepN b x p.b).1 then if nextP a b p x ∈ l then 0 else 21 else 19) (k + 1) (ins.drop (k + 1))).2 = R) := ⟨by simpa [e1, e2] using hR⟩
      unfold nextP at t4
      generalize stepN a x p.a = q at t2 t4
      generalize stepN b x p.b = r at t3 t4
      clear hR e1 e2
      conv => arg 3; whnf
      repeat' first
       | (apply z50 (id := 6) (ord := [0, 1, 2, 3, 4, 5, 6, 7]) <;> first | kernel_rfl | skip)
       | (apply z50 (id := 9) (ord := [0, 1, 2, 3, 4, 5, 6, 7]) <;> first | kernel_rfl | skip)
       | (apply z50 (id := 12) (ord := [0, 1, 2, 3, 4, 5, 6, 7, 8, 9, 10, 11, 12, 13, 14]) <;> first | kernel_rfl | skip)
       | (apply z51 (id := 14) (ord := [0, 1, 3, 2, 4, 5, 6, 7]) (ps := [(2, 3)]) <;> first | kernel_rfl | skip)
       | (apply z50 (id := 22) (ord := [0, 1, 2, 3, 4, 5, 6, 7, 8, 9, 10]) <;> first | kernel_rfl | skip)
       | (apply z50 (id := 24) (ord := [0, 1, 2, 3, 4, 5, 6, 7, 8, 9, 10, 11, 12, 13, 14, 15]) <;> first | kernel_rfl | skip)
       | (apply z50 (id := 25) (ord := [0, 1, 2, 3, 4, 5, 6, 7, 8, 9, 10, 11, 12, 13, 14, 15]) <;> first | kernel_rfl | skip)
       | (refine zs ?_; repeat' first | apply zs0 | apply zs2 | (intro hc; try have hq := dq hc)) | fail
      exact ⟨by (simp only [seval, push_cast, *] <;> rfl), by (simp only [seval, push_cast, *] <;> rfl), by (simp only [seval, push_cast, *] <;> rfl), by (simp only [seval, push_cast, *] <;> rfl), by (simp only [seval, push_cast, *] <;> rfl), by (simp only [seval, push_cast, *] <;> rfl), by (simp only [seval, push_cast, *] <;> rfl), g⟩
    · rw [decide_eq_false e2] at t4
      have g : Kp (R = 21) := ⟨by simpa [e1, e2] using hR.symm⟩
      unfold nextP at t4
      generalize stepN a x p.a = q at t2 t4
      generalize stepN b x p.b = r at t3 t4
      clear hR e1 e2
      conv => arg 3; whnf
      repeat' first
       | (apply z50 (id := 6) (ord := [0, 1, 2, 3, 4, 5, 6, 7]) <;> first | kernel_rfl | skip)
       | (apply z50 (id := 9) (ord := [0, 1, 2, 3, 4, 5, 6, 7]) <;> first | kernel_rfl | skip)
       | (apply z50 (id := 12) (ord := [0, 1, 2, 3, 4, 5, 6, 7, 8, 9, 10, 11, 12, 13, 14]) <;> first | kernel_rfl | skip)
       | (apply z51 (id := 14) (ord := [0, 1, 3, 2, 4, 5, 6, 7]) (ps := [(2, 3)]) <;> first | kernel_rfl | skip)
       | (apply z50 (id := 22) (ord := [0, 1, 2, 3, 4, 5, 6, 7, 8, 9, 10]) <;> first | kernel_rfl | skip)
       | (apply z50 (id := 24) (ord := [0, 1, 2, 3, 4, 5, 6, 7, 8, 9, 10, 11, 12, 13, 14, 15]) <;> first | kernel_rfl | skip)
       | (apply z50 (id := 25) (ord := [0, 1, 2, 3, 4, 5, 6, 7, 8, 9, 10, 11, 12, 13, 14, 15]) <;> first | kernel_rfl | skip)
       | (refine zs ?_; repeat' first | apply zs0 | apply zs2 | (intro hc; try have hq := dq hc)) | fail
      obtain rfl := g.out
      exact ⟨by (simp only [seval, push_cast, *] <;> rfl), .inr ⟨rfl, by (simp only [seval, push_cast, *] <;> rfl), by (simp only [seval, push_cast, *] <;> rfl), by simp⟩⟩
  · rintro ρ H' ⟨rfl, h2, h3, h4, h5, h13, h14, hR⟩
    replace hR := hR.out
    rw [List.drop_length, eachP] at hR
    replace hR := Kp.mk hR
    simp only [cellsNetl]
    clear hck hpl
    conv => arg 3; whnf
    repeat' first
     | (apply z50 (id := 6) (ord := [0, 1, 2, 3, 4, 5, 6, 7]) <;> first | kernel_rfl | skip)
     | (apply z50 (id := 9) (ord := [0, 1, 2, 3, 4, 5, 6, 7]) <;> first | kernel_rfl | skip)
     | (apply z50 (id := 12) (ord := [0, 1, 2, 3, 4, 5, 6, 7, 8, 9, 10, 11, 12, 13, 14]) <;> first | kernel_rfl | skip)
     | (apply z51 (id := 14) (ord := [0, 1, 3, 2, 4, 5, 6, 7]) (ps := [(2, 3)]) <;> first | kernel_rfl | skip)
     | (apply z50 (id := 22) (ord := [0, 1, 2, 3, 4, 5, 6, 7, 8, 9, 10]) <;> first | kernel_rfl | skip)
     | (apply z50 (id := 24) (ord := [0, 1, 2, 3, 4, 5, 6, 7, 8, 9, 10, 11, 12, 13, 14, 15]) <;> first | kernel_rfl | skip)
     | (apply z50 (id := 25) (ord := [0, 1, 2, 3, 4, 5, 6, 7, 8, 9, 10, 11, 12, 13, 14, 15]) <;> first | kernel_rfl | skip)
     | (refine zs ?_; repeat' first | apply zs0 | apply zs2 | (intro hc; try have hq := dq hc)) | fail
    exact ⟨by (simp only [seval, push_cast, *] <;> rfl), .inl ⟨rfl, hR.out.symm⟩⟩

theorem cs_out (hra : a.regs.length ≤ 1000) (hrb : b.regs.length ≤ 1000) (hin : ins.length ≤ 1000) (hck : ∀ p ∈ l, ∀ x ∈ ins, CkOk a x p.a ∧ CkOk b x p.b) (hll : l.length ≤ 1000) (hpl : ∀ x ∈ l, PLen x) (R : Int × Int) (bs : List Nat) : ∀ i ρ H', i ≤ l.length →
      (H' = H ++ [.cells (cellsNetl a), .cells (cellsNetl b)] ∧ ρ 2 = .list (ins.map encInts) ∧ ρ 3 = .list (l.map encPair) ∧ ρ 4 = .ptr H.length 0 ∧ ρ 5 = .ptr (H.length + 1) 0 ∧ ρ 13 = .int .i64 i ∧ Kp (eachP (clErrS a b ins l) i (l.drop i) = R)) →
      Lp X ⟨133, bs⟩ (loopAt Tryz.f40 1) ρ H' fun ex ρ' H' => H' = H ++ [.cells (cellsNetl a), .cells (cellsNetl b)] ∧ ((ex = .exit 2 ∧ R = (0, 0)) ∨ (ex = .ret ∧ ρ' 8 = .int .i64 R.1 ∧ ρ' 9 = .int .i64 R.2)) := by
  refine loop_up ?_ ?_
  · rintro i ρ H' hi ⟨rfl, h2, h3, h4, h5, h13, hR⟩
    have hget : l[i]? = some l[i] := by simp [hi]
    have hp := hck _ (List.getElem_mem hi)
    have q := fun R bs ρ H' => cs_in a b ins l H i l[i] hget hra hrb hin hp hll hpl R bs 0 ρ H' (by omega)
    replace hR := hR.out
    rw [drop_cons hget, eachP] at hR
    have e0 : Kp ((eachP (fun _ x => oneErrS a b l l[i] x) 0 (ins.drop 0)).2 = clErrS a b ins l i l[i]) := ⟨by rw [List.drop_zero]; rfl⟩
    generalize l[i] = p at hget hR q e0
    generalize clErrS a b ins l i p = c at hR e0
    have hw := add1 i l.length hi (by omega)
    replace hR := Kp.mk hR
    simp only [cellsNetl] at q ⊢
    clear hp hck hpl
    conv => arg 3; whnf
    repeat' first
     | (apply z50 (id := 6) (ord := [0, 1, 2, 3, 4, 5, 6, 7]) <;> first | kernel_rfl | skip)
     | (apply z50 (id := 9) (ord := [0, 1, 2, 3, 4, 5, 6, 7]) <;> first | kernel_rfl | skip)
     | (apply z50 (id := 12) (ord := [0, 1, 2, 3, 4, 5, 6, 7, 8, 9, 10, 11, 12, 13, 14]) <;> first | kernel_rfl | skip)
     | (apply z51 (id := 14) (ord := [0, 1, 3, 2, 4, 5, 6, 7]) (ps := [(2, 3)]) <;> first | kernel_rfl | skip)
     | (apply z50 (id := 22) (ord := [0, 1, 2, 3, 4, 5, 6, 7, 8, 9, 10]) <;> first | kernel_rfl | skip)
     | (apply z50 (id := 24) (ord := [0, 1, 2, 3, 4, 5, 6, 7, 8, 9, 10, 11, 12, 13, 14, 15]) <;> first | kernel_rfl | skip)
     | (apply z50 (id := 25) (ord := [0, 1, 2, 3, 4, 5, 6, 7, 8, 9, 10, 11, 12, 13, 14, 15]) <;> first | kernel_rfl | skip)
     | (refine zs ?_; repeat' first | apply zs0 | apply zs2 | (intro hc; try have hq := dq hc)) | fail
    refine lp_then (lp_any (c := loopAt Tryz.f40 2) rfl (q c _ _ _ ⟨by first | rfl | trivial, by (simp only [seval, push_cast, *] <;> rfl), by (simp only [seval, push_cast, *] <;> rfl), by (simp only [seval, push_cast, *] <;> rfl), by (simp only [seval, push_cast, *] <;> rfl), by (simp only [seval, push_cast, *] <;> rfl), by (simp only [seval, push_cast, *] <;> rfl), e0⟩)) ?_
    clear q e0
    rintro ex ρ' H' ⟨rfl, ⟨rfl, rfl⟩ | ⟨rfl, g8, g9, hne⟩⟩ hf
    · have f2 := hf 2 rfl
      have f3 := hf 3 rfl
      have f4 := hf 4 rfl
      have f5 := hf 5 rfl
      have f13 := hf 13 rfl
      simp only [seval, push_cast] at f2 f3 f4 f5 f13
      rw [h2] at f2
      rw [h3] at f3
      rw [h4] at f4
      rw [h5] at f5
      rw [h13] at f13
      clear hf h2 h3 h4 h5 h13
      replace hR : Kp (eachP (clErrS a b ins l) (i + 1) (l.drop (i + 1)) = R) := ⟨by simpa using hR.out⟩
      repeat' first
       | (apply z50 (id := 6) (ord := [0, 1, 2, 3, 4, 5, 6, 7]) <;> first | kernel_rfl | skip)
       | (apply z50 (id := 9) (ord := [0, 1, 2, 3, 4, 5, 6, 7]) <;> first | kernel_rfl | skip)
       | (apply z50 (id := 12) (ord := [0, 1, 2, 3, 4, 5, 6, 7, 8, 9, 10, 11, 12, 13, 14]) <;> first | kernel_rfl | skip)
       | (apply z51 (id := 14) (ord := [0, 1, 3, 2, 4, 5, 6, 7]) (ps := [(2, 3)]) <;> first | kernel_rfl | skip)
       | (apply z50 (id := 22) (ord := [0, 1, 2, 3, 4, 5, 6, 7, 8, 9, 10]) <;> first | kernel_rfl | skip)
       | (apply z50 (id := 24) (ord := [0, 1, 2, 3, 4, 5, 6, 7, 8, 9, 10, 11, 12, 13, 14, 15]) <;> first | kernel_rfl | skip)
       | (apply z50 (id := 25) (ord := [0, 1, 2, 3, 4, 5, 6, 7, 8, 9, 10, 11, 12, 13, 14, 15]) <;> first | kernel_rfl | skip)
       | (refine zs ?_; repeat' first | apply zs0 | apply zs2 | (intro hc; try have hq := dq hc)) | fail
      exact ⟨by (simp only [seval, push_cast, *] <;> rfl), by (simp only [seval, push_cast, *] <;> rfl), by (simp only [seval, push_cast, *] <;> rfl), by (simp only [seval, push_cast, *] <;> rfl), by (simp only [seval, push_cast, *] <;> rfl), by (simp only [seval, push_cast, *] <;> rfl), hR⟩
    · replace hR := hR.out
      rw [if_pos hne] at hR
      subst hR
      clear hf hne
      repeat' first
       | (apply z50 (id := 6) (ord := [0, 1, 2, 3, 4, 5, 6, 7]) <;> first | kernel_rfl | skip)
       | (apply z50 (id := 9) (ord := [0, 1, 2, 3, 4, 5, 6, 7]) <;> first | kernel_rfl | skip)
       | (apply z50 (id := 12) (ord := [0, 1, 2, 3, 4, 5, 6, 7, 8, 9, 10, 11, 12, 13, 14]) <;> first | kernel_rfl | skip)
       | (apply z51 (id := 14) (ord := [0, 1, 3, 2, 4, 5, 6, 7]) (ps := [(2, 3)]) <;> first | kernel_rfl | skip)
       | (apply z50 (id := 22) (ord := [0, 1, 2, 3, 4, 5, 6, 7, 8, 9, 10]) <;> first | kernel_rfl | skip)
       | (apply z50 (id := 24) (ord := [0, 1, 2, 3, 4, 5, 6, 7, 8, 9, 10, 11, 12, 13, 14, 15]) <;> first | kernel_rfl | skip)
       | (apply z50 (id := 25) (ord := [0, 1, 2, 3, 4, 5, 6, 7, 8, 9, 10, 11, 12, 13, 14, 15]) <;> first | kernel_rfl | skip)
       | (refine zs ?_; repeat' first | apply zs0 | apply zs2 | (intro hc; try have hq := dq hc)) | fail
      exact ⟨by (simp only [seval, push_cast, *] <;> rfl), .inr ⟨rfl, by (simp only [seval, push_cast, *] <;> rfl), by (simp only [seval, push_cast, *] <;> rfl)⟩⟩
  · rintro ρ H' ⟨rfl, h2, h3, h4, h5, h13, hR⟩
    replace hR := hR.out
    rw [List.drop_length, eachP] at hR
    replace hR := Kp.mk hR
    simp only [cellsNetl]
    clear hck hpl
    conv => arg 3; whnf
    repeat' first
     | (apply z50 (id := 6) (ord := [0, 1, 2, 3, 4, 5, 6, 7]) <;> first | kernel_rfl | skip)
     | (apply z50 (id := 9) (ord := [0, 1, 2, 3, 4, 5, 6, 7]) <;> first | kernel_rfl | skip)
     | (apply z50 (id := 12) (ord := [0, 1, 2, 3, 4, 5, 6, 7, 8, 9, 10, 11, 12, 13, 14]) <;> first | kernel_rfl | skip)
     | (apply z51 (id := 14) (ord := [0, 1, 3, 2, 4, 5, 6, 7]) (ps := [(2, 3)]) <;> first | kernel_rfl | skip)
     | (apply z50 (id := 22) (ord := [0, 1, 2, 3, 4, 5, 6, 7, 8, 9, 10]) <;> first | kernel_rfl | skip)
     | (apply z50 (id := 24) (ord := [0, 1, 2, 3, 4, 5, 6, 7, 8, 9, 10, 11, 12, 13, 14, 15]) <;> first | kernel_rfl | skip)
     | (apply z50 (id := 25) (ord := [0, 1, 2, 3, 4, 5, 6, 7, 8, 9, 10, 11, 12, 13, 14, 15]) <;> first | kernel_rfl | skip)
     | (refine zs ?_; repeat' first | apply zs0 | apply zs2 | (intro hc; try have hq := dq hc)) | fail
    exact ⟨by (simp only [seval, push_cast, *] <;> rfl), .inl ⟨rfl, hR.out.symm⟩⟩
end

theorem rf_checkSame (bs : List Nat) (H : Heap) (a b : Netl) (ins : List (List Int)) (l : List NPair) (hSa : Small a) (hSb : Small b) (hka : NetOk a) (hkb : NetOk b) (hia : ∀ x ∈ ins, inErrS a x = 0) (hib : ∀ x ∈ ins, inErrS b x = 0) (hin : ins.length ≤ 1000) (hll : l.length ≤ 1000) (hpl : ∀ x ∈ l, PLen x) : callw X bs 40 [encNetl a, encNetl b, .list (ins.map encInts), .list (l.map encPair)] H = some (.tuple [.int .i64 (pairsErrS a b ins l).1, .int .i64 (pairsErrS a b ins l).2], H) := by
  refine call_at (rs := [.tmp 8, .tmp 9]) (N := 133) (fn := Tryz.f40) xk40 xf40 rfl rfl rfl (by simp only [seval, push_cast, List.map_cons, List.map_nil, V.norm, norm1]; rfl) ?_
  unfold pairsErrS
  by_cases h3 : 300 < l.length
  · have d : decide ((l.length : Int) > 300) = true := decide_eq_true (by omega)
    rw [if_pos h3]
    clear hSa hSb hka hkb hia hib hpl h3
    repeat' first
     | (apply z50 (id := 6) (ord := [0, 1, 2, 3, 4, 5, 6, 7]) <;> first | kernel_rfl | skip)
     | (apply z50 (id := 9) (ord := [0, 1, 2, 3, 4, 5, 6, 7]) <;> first | kernel_rfl | skip)
     | (apply z50 (id := 12) (ord := [0, 1, 2, 3, 4, 5, 6, 7, 8, 9, 10, 11, 12, 13, 14]) <;> first | kernel_rfl | skip)
     | (apply z51 (id := 14) (ord := [0, 1, 3, 2, 4, 5, 6, 7]) (ps := [(2, 3)]) <;> first | kernel_rfl | skip)
     | (apply z50 (id := 22) (ord := [0, 1, 2, 3, 4, 5, 6, 7, 8, 9, 10]) <;> first | kernel_rfl | skip)
     | (apply z50 (id := 24) (ord := [0, 1, 2, 3, 4, 5, 6, 7, 8, 9, 10, 11, 12, 13, 14, 15]) <;> first | kernel_rfl | skip)
     | (apply z50 (id := 25) (ord := [0, 1, 2, 3, 4, 5, 6, 7, 8, 9, 10, 11, 12, 13, 14, 15]) <;> first | kernel_rfl | skip)
     | (refine zs ?_; repeat' first | apply zs0 | apply zs2 | (intro hc; try have hq := dq hc)) | fail
  have d : decide ((l.length : Int) > 300) = false := decide_eq_false (by omega)
  rw [if_neg h3]
  have k0 := fun R bs ρ H' => cs_ord a b l H hSa hSb hka hkb hll hpl R bs 0 ρ H' (by omega)
  have e0 : Kp (eachP (ordErrS a b l) 0 (l.drop 0) = eachP (ordErrS a b l) 0 l) := ⟨by rw [List.drop_zero]⟩
  by_cases hz : (eachP (ordErrS a b l) 0 l).2 = 0
  case neg =>
    rw [if_pos hz]
    generalize eachP (ordErrS a b l) 0 l = r at e0 hz ⊢
    simp only [cellsNetl] at k0
    clear hSa hSb hka hkb hia hib hpl h3
    repeat' first
     | (apply z50 (id := 6) (ord := [0, 1, 2, 3, 4, 5, 6, 7]) <;> first | kernel_rfl | skip)
     | (apply z50 (id := 9) (ord := [0, 1, 2, 3, 4, 5, 6, 7]) <;> first | kernel_rfl | skip)
     | (apply z50 (id := 12) (ord := [0, 1, 2, 3, 4, 5, 6, 7, 8, 9, 10, 11, 12, 13, 14]) <;> first | kernel_rfl | skip)
     | (apply z51 (id := 14) (ord := [0, 1, 3, 2, 4, 5, 6, 7]) (ps := [(2, 3)]) <;> first | kernel_rfl | skip)
     | (apply z50 (id := 22) (ord := [0, 1, 2, 3, 4, 5, 6, 7, 8, 9, 10]) <;> first | kernel_rfl | skip)
     | (apply z50 (id := 24) (ord := [0, 1, 2, 3, 4, 5, 6, 7, 8, 9, 10, 11, 12, 13, 14, 15]) <;> first | kernel_rfl | skip)
     | (apply z50 (id := 25) (ord := [0, 1, 2, 3, 4, 5, 6, 7, 8, 9, 10, 11, 12, 13, 14, 15]) <;> first | kernel_rfl | skip)
     | (refine zs ?_; repeat' first | apply zs0 | apply zs2 | (intro hc; try have hq := dq hc)) | fail
    refine lp_then (lp_any (c := loopAt Tryz.f40 0) rfl (k0 r _ _ _ ⟨by first | rfl | trivial, by (simp only [seval, push_cast, *] <;> rfl), by (simp only [seval, push_cast, *] <;> rfl), by (simp only [seval, push_cast, *] <;> rfl), by (simp only [seval, push_cast, *] <;> rfl), e0⟩)) ?_
    clear k0 e0
    rintro ex ρ' H' ⟨rfl, ⟨rfl, rfl⟩ | ⟨rfl, g8, g9, hne⟩⟩ hf
    · exact absurd rfl hz
    · clear hf hne hz
      repeat' first
       | (apply z50 (id := 6) (ord := [0, 1, 2, 3, 4, 5, 6, 7]) <;> first | kernel_rfl | skip)
       | (apply z50 (id := 9) (ord := [0, 1, 2, 3, 4, 5, 6, 7]) <;> first | kernel_rfl | skip)
       | (apply z50 (id := 12) (ord := [0, 1, 2, 3, 4, 5, 6, 7, 8, 9, 10, 11, 12, 13, 14]) <;> first | kernel_rfl | skip)
       | (apply z51 (id := 14) (ord := [0, 1, 3, 2, 4, 5, 6, 7]) (ps := [(2, 3)]) <;> first | kernel_rfl | skip)
       | (apply z50 (id := 22) (ord := [0, 1, 2, 3, 4, 5, 6, 7, 8, 9, 10]) <;> first | kernel_rfl | skip)
       | (apply z50 (id := 24) (ord := [0, 1, 2, 3, 4, 5, 6, 7, 8, 9, 10, 11, 12, 13, 14, 15]) <;> first | kernel_rfl | skip)
       | (apply z50 (id := 25) (ord := [0, 1, 2, 3, 4, 5, 6, 7, 8, 9, 10, 11, 12, 13, 14, 15]) <;> first | kernel_rfl | skip)
       | (refine zs ?_; repeat' first | apply zs0 | apply zs2 | (intro hc; try have hq := dq hc)) | fail
  rw [if_neg (by simpa using hz)]
  have hok := ord_ok hz
  have hra := hSa.regs
  have hrb := hSb.regs
  rw [eachP_zero _ l 0 hz] at e0
  have k1 := fun R bs ρ H' => cs_out a b ins l H hra hrb hin (fun p hp x hx => ⟨ck_of hSa hka (hia x hx) (hok p hp).1, ck_of hSb hkb (hib x hx) (hok p hp).2⟩) hll hpl R bs 0 ρ H' (by omega)
  have e1 : Kp (eachP (clErrS a b ins l) 0 (l.drop 0) = eachP (clErrS a b ins l) 0 l) := ⟨by rw [List.drop_zero]⟩
  have u1 := fun bs H => bs_netResets bs H a hra
  have u2 := fun bs H => bs_netResets bs H b hrb
  have hpr : PLen (resetP a b) := ⟨by simp only [resetP, List.length_map]; omega, by simp only [resetP, List.length_map]; omega⟩
  have u3 := fun bs H => rf_hasPair bs H l (resetP a b) (by omega) hpl hpr
  have ea : a.regs.map (fun r : Reg => V.int .i64 r.init) = (a.regs.map (·.init)).map (V.int .i64) := by simp
  have eb : b.regs.map (fun r : Reg => V.int .i64 r.init) = (b.regs.map (·.init)).map (V.int .i64) := by simp
  rw [ea] at u1
  rw [eb] at u2
  have hra2 : (resetP a b).a = a.regs.map (·.init) := rfl
  have hrb2 : (resetP a b).b = b.regs.map (·.init) := rfl
  rw [← hra2] at u1
  rw [← hrb2] at u2
  simp only [encNetl, cellsNetl, encPair, encInts] at k0 k1 u1 u2 u3
  generalize eachP (clErrS a b ins l) 0 l = r at e1 ⊢
  clear hSa hSb hka hkb hia hib hpl h3 hok hra hrb hz ea eb hra2 hrb2 hpr
  by_cases hm : resetP a b ∈ l
  · rw [if_pos hm]
    rw [decide_eq_true hm] at u3
    generalize resetP a b = p at u1 u2 u3
    clear hm
    repeat' first
     | (apply z50 (id := 6) (ord := [0, 1, 2, 3, 4, 5, 6, 7]) <;> first | kernel_rfl | skip)
     | (apply z50 (id := 9) (ord := [0, 1, 2, 3, 4, 5, 6, 7]) <;> first | kernel_rfl | skip)
     | (apply z50 (id := 12) (ord := [0, 1, 2, 3, 4, 5, 6, 7, 8, 9, 10, 11, 12, 13, 14]) <;> first | kernel_rfl | skip)
     | (apply z51 (id := 14) (ord := [0, 1, 3, 2, 4, 5, 6, 7]) (ps := [(2, 3)]) <;> first | kernel_rfl | skip)
     | (apply z50 (id := 22) (ord := [0, 1, 2, 3, 4, 5, 6, 7, 8, 9, 10]) <;> first | kernel_rfl | skip)
     | (apply z50 (id := 24) (ord := [0, 1, 2, 3, 4, 5, 6, 7, 8, 9, 10, 11, 12, 13, 14, 15]) <;> first | kernel_rfl | skip)
     | (apply z50 (id := 25) (ord := [0, 1, 2, 3, 4, 5, 6, 7, 8, 9, 10, 11, 12, 13, 14, 15]) <;> first | kernel_rfl | skip)
     | (refine zs ?_; repeat' first | apply zs0 | apply zs2 | (intro hc; try have hq := dq hc)) | fail
    refine lp_then (lp_any (c := loopAt Tryz.f40 0) rfl (k0 (0, 0) _ _ _ ⟨by first | rfl | trivial, by (simp only [seval, push_cast, *] <;> rfl), by (simp only [seval, push_cast, *] <;> rfl), by (simp only [seval, push_cast, *] <;> rfl), by (simp only [seval, push_cast, *] <;> rfl), e0⟩)) ?_
    clear k0 e0
    rintro ex ρ' H' ⟨rfl, ⟨rfl, _⟩ | ⟨rfl, g8, g9, hne⟩⟩ hf
    rotate_left
    · exact absurd rfl hne
    have f2 := hf 2 rfl
    have f3 := hf 3 rfl
    have f4 := hf 4 rfl
    have f5 := hf 5 rfl
    simp only [seval, push_cast] at f2 f3 f4 f5
    clear hf
    repeat' first
     | (apply z50 (id := 6) (ord := [0, 1, 2, 3, 4, 5, 6, 7]) <;> first | kernel_rfl | skip)
     | (apply z50 (id := 9) (ord := [0, 1, 2, 3, 4, 5, 6, 7]) <;> first | kernel_rfl | skip)
     | (apply z50 (id := 12) (ord := [0, 1, 2, 3, 4, 5, 6, 7, 8, 9, 10, 11, 12, 13, 14]) <;> first | kernel_rfl | skip)
     | (apply z51 (id := 14) (ord := [0, 1, 3, 2, 4, 5, 6, 7]) (ps := [(2, 3)]) <;> first | kernel_rfl | skip)
     | (apply z50 (id := 22) (ord := [0, 1, 2, 3, 4, 5, 6, 7, 8, 9, 10]) <;> first | kernel_rfl | skip)
     | (apply z50 (id := 24) (ord := [0, 1, 2, 3, 4, 5, 6, 7, 8, 9, 10, 11, 12, 13, 14, 15]) <;> first | kernel_rfl | skip)
     | (apply z50 (id := 25) (ord := [0, 1, 2, 3, 4, 5, 6, 7, 8, 9, 10, 11, 12, 13, 14, 15]) <;> first | kernel_rfl | skip)
     | (refine zs ?_; repeat' first | apply zs0 | apply zs2 | (intro hc; try have hq := dq hc)) | fail
    refine lp_then (lp_any (c := loopAt Tryz.f40 1) rfl (k1 r _ _ _ ⟨by first | rfl | trivial, by (simp only [seval, push_cast, *] <;> rfl), by (simp only [seval, push_cast, *] <;> rfl), by (simp only [seval, push_cast, *] <;> rfl), by (simp only [seval, push_cast, *] <;> rfl), by (simp only [seval, push_cast, *] <;> rfl), e1⟩)) ?_
    clear k1 e1 f2 f3 f4 f5
    rintro ex ρ'' H' ⟨rfl, ⟨rfl, rfl⟩ | ⟨rfl, g8, g9⟩⟩ hf
    · clear hf
      repeat' first
       | (apply z50 (id := 6) (ord := [0, 1, 2, 3, 4, 5, 6, 7]) <;> first | kernel_rfl | skip)
       | (apply z50 (id := 9) (ord := [0, 1, 2, 3, 4, 5, 6, 7]) <;> first | kernel_rfl | skip)
       | (apply z50 (id := 12) (ord := [0, 1, 2, 3, 4, 5, 6, 7, 8, 9, 10, 11, 12, 13, 14]) <;> first | kernel_rfl | skip)
       | (apply z51 (id := 14) (ord := [0, 1, 3, 2, 4, 5, 6, 7]) (ps := [(2, 3)]) <;> first | kernel_rfl | skip)
       | (apply z50 (id := 22) (ord := [0, 1, 2, 3, 4, 5, 6, 7, 8, 9, 10]) <;> first | kernel_rfl | skip)
       | (apply z50 (id := 24) (ord := [0, 1, 2, 3, 4, 5, 6, 7, 8, 9, 10, 11, 12, 13, 14, 15]) <;> first | kernel_rfl | skip)
       | (apply z50 (id := 25) (ord := [0, 1, 2, 3, 4, 5, 6, 7, 8, 9, 10, 11, 12, 13, 14, 15]) <;> first | kernel_rfl | skip)
       | (refine zs ?_; repeat' first | apply zs0 | apply zs2 | (intro hc; try have hq := dq hc)) | fail
    · clear hf
      repeat' first
       | (apply z50 (id := 6) (ord := [0, 1, 2, 3, 4, 5, 6, 7]) <;> first | kernel_rfl | skip)
       | (apply z50 (id := 9) (ord := [0, 1, 2, 3, 4, 5, 6, 7]) <;> first | kernel_rfl | skip)
       | (apply z50 (id := 12) (ord := [0, 1, 2, 3, 4, 5, 6, 7, 8, 9, 10, 11, 12, 13, 14]) <;> first | kernel_rfl | skip)
       | (apply z51 (id := 14) (ord := [0, 1, 3, 2, 4, 5, 6, 7]) (ps := [(2, 3)]) <;> first | kernel_rfl | skip)
       | (apply z50 (id := 22) (ord := [0, 1, 2, 3, 4, 5, 6, 7, 8, 9, 10]) <;> first | kernel_rfl | skip)
       | (apply z50 (id := 24) (ord := [0, 1, 2, 3, 4, 5, 6, 7, 8, 9, 10, 11, 12, 13, 14, 15]) <;> first | kernel_rfl | skip)
       | (apply z50 (id := 25) (ord := [0, 1, 2, 3, 4, 5, 6, 7, 8, 9, 10, 11, 12, 13, 14, 15]) <;> first | kernel_rfl | skip)
       | (refine zs ?_; repeat' first | apply zs0 | apply zs2 | (intro hc; try have hq := dq hc)) | fail
  · rw [if_neg hm]
    rw [decide_eq_false hm] at u3
    generalize resetP a b = p at u1 u2 u3
    clear hm k1 e1
    repeat' first
     | (apply z50 (id := 6) (ord := [0, 1, 2, 3, 4, 5, 6, 7]) <;> first | kernel_rfl | skip)
     | (apply z50 (id := 9) (ord := [0, 1, 2, 3, 4, 5, 6, 7]) <;> first | kernel_rfl | skip)
     | (apply z50 (id := 12) (ord := [0, 1, 2, 3, 4, 5, 6, 7, 8, 9, 10, 11, 12, 13, 14]) <;> first | kernel_rfl | skip)
     | (apply z51 (id := 14) (ord := [0, 1, 3, 2, 4, 5, 6, 7]) (ps := [(2, 3)]) <;> first | kernel_rfl | skip)
     | (apply z50 (id := 22) (ord := [0, 1, 2, 3, 4, 5, 6, 7, 8, 9, 10]) <;> first | kernel_rfl | skip)
     | (apply z50 (id := 24) (ord := [0, 1, 2, 3, 4, 5, 6, 7, 8, 9, 10, 11, 12, 13, 14, 15]) <;> first | kernel_rfl | skip)
     | (apply z50 (id := 25) (ord := [0, 1, 2, 3, 4, 5, 6, 7, 8, 9, 10, 11, 12, 13, 14, 15]) <;> first | kernel_rfl | skip)
     | (refine zs ?_; repeat' first | apply zs0 | apply zs2 | (intro hc; try have hq := dq hc)) | fail
    refine lp_then (lp_any (c := loopAt Tryz.f40 0) rfl (k0 (0, 0) _ _ _ ⟨by first | rfl | trivial, by (simp only [seval, push_cast, *] <;> rfl), by (simp only [seval, push_cast, *] <;> rfl), by (simp only [seval, push_cast, *] <;> rfl), by (simp only [seval, push_cast, *] <;> rfl), e0⟩)) ?_
    clear k0 e0
    rintro ex ρ' H' ⟨rfl, ⟨rfl, _⟩ | ⟨rfl, g8, g9, hne⟩⟩ hf
    rotate_left
    · exact absurd rfl hne
    have f2 := hf 2 rfl
    have f3 := hf 3 rfl
    have f4 := hf 4 rfl
    have f5 := hf 5 rfl
    simp only [seval, push_cast] at f2 f3 f4 f5
    clear hf
    repeat' first
     | (apply z50 (id := 6) (ord := [0, 1, 2, 3, 4, 5, 6, 7]) <;> first | kernel_rfl | skip)
     | (apply z50 (id := 9) (ord := [0, 1, 2, 3, 4, 5, 6, 7]) <;> first | kernel_rfl | skip)
     | (apply z50 (id := 12) (ord := [0, 1, 2, 3, 4, 5, 6, 7, 8, 9, 10, 11, 12, 13, 14]) <;> first | kernel_rfl | skip)
     | (apply z51 (id := 14) (ord := [0, 1, 3, 2, 4, 5, 6, 7]) (ps := [(2, 3)]) <;> first | kernel_rfl | skip)
     | (apply z50 (id := 22) (ord := [0, 1, 2, 3, 4, 5, 6, 7, 8, 9, 10]) <;> first | kernel_rfl | skip)
     | (apply z50 (id := 24) (ord := [0, 1, 2, 3, 4, 5, 6, 7, 8, 9, 10, 11, 12, 13, 14, 15]) <;> first | kernel_rfl | skip)
     | (apply z50 (id := 25) (ord := [0, 1, 2, 3, 4, 5, 6, 7, 8, 9, 10, 11, 12, 13, 14, 15]) <;> first | kernel_rfl | skip)
     | (refine zs ?_; repeat' first | apply zs0 | apply zs2 | (intro hc; try have hq := dq hc)) | fail

end Go.E
