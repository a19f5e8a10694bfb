/- Plain law of chapter 22: which netlists are valid. Own work. -/
import Derived.Test.YtbnakdpmjlcneaaGreatBs4
set_option linter.all false
namespace Go.E

theorem has_add (s t : ByteArray) : ∀ ns : List ByteArray, hasName s (addName t ns) = (decide (s = t) || hasName s ns)
  | [] => by simp [addName, hasName]
  | u :: r => by
    simp only [addName]
    by_cases h : t = u
    · subst h
      simp [hasName]
    · rw [if_neg h]
      simp only [hasName, has_add s t r]
      cases decide (s = u) <;> cases decide (s = t) <;> rfl

/-- each over names that are to be new: as the reference tells it. -/
theorem each_names {α : Type} (nm : α → ByteArray) (g : Nat → α → List ByteArray → Int × List ByteArray) (e : α → Int) (before : ByteArray → Bool)
    (hg : ∀ i x ns, g i x ns = (firstL [nameErr ns (nm x), e x], addName (nm x) ns)) (full : List α) (f : Nat → α → Int)
    (hf : ∀ i x, full[i]? = some x → f i x = if isNameS (nm x) = false then 4 else if ((full.take i).any (fun q => decide (nm q = nm x)) || before (nm x)) = true then 5 else e x) :
    ∀ (rest : List α) (i : Nat) (ns : List ByteArray), full.drop i = rest → (∀ s, hasName s ns = ((full.take i).any (fun q => decide (nm q = s)) || before s)) →
      (eachL g i rest ns).1 = eachP f i rest ∧ ((eachP f i rest).2 = 0 → ∀ s, hasName s (eachL g i rest ns).2 = (full.any (fun q => decide (nm q = s)) || before s))
  | [], i, ns, hd, hn => by
    refine ⟨rfl, fun _ s => ?_⟩
    have : full.take i = full := List.take_of_length_le (by simpa using hd)
    simp only [eachL, hn, this]
  | x :: r, i, ns, hd, hn => by
    have hget : full[i]? = some x := by
      have := congrArg List.head? hd
      simpa [List.head?_drop] using this
    have he : (g i x ns).1 = f i x := by
      rw [hg, hf i x hget]
      simp only [firstL, nameErr, hn]
      cases h1 : isNameS (nm x) <;> cases h2 : ((full.take i).any (fun q => decide (nm q = nm x)) || before (nm x)) <;> simp <;> exact fun h => h.symm
    have hs : (g i x ns).2 = addName (nm x) ns := by rw [hg]
    simp only [eachL, eachP, he, hs]
    by_cases h0 : f i x = 0
    · rw [if_neg (by simpa using h0), if_neg (by simpa using h0)]
      refine each_names nm g e before hg full f hf r (i + 1) _ ?_ (fun s => ?_)
      · rw [← List.drop_drop, hd]; rfl
      · rw [has_add, hn, List.take_add_one, hget]
        simp only [Option.toList_some, List.any_append, List.any_cons, List.any_nil, Bool.or_false]
        have : decide (s = nm x) = decide (nm x = s) := by simp only [decide_eq_decide]; exact eq_comm
        rw [this]
        cases decide (nm x = s) <;> cases (full.take i).any (fun q => decide (nm q = s)) <;> rfl
    · rw [if_pos h0, if_pos h0]
      exact ⟨rfl, fun h => absurd h h0⟩

theorem eachP_zero {α : Type} (g : Nat → α → Int) : ∀ (l : List α) (i : Nat), (eachP g i l).2 = 0 → eachP g i l = (0, 0)
  | [], _, _ => rfl
  | x :: r, i, h => by
    simp only [eachP] at h ⊢
    split at h
    · rename_i h0; exact absurd h h0
    · rename_i h0; rw [if_neg h0]; exact eachP_zero g r (i + 1) h

theorem ports_same (l : List Port) : (eachL portErrS 0 l []).1 = eachP (portErrR l) 0 l ∧ ((eachP (portErrR l) 0 l).2 = 0 → ∀ s, hasName s (eachL portErrS 0 l []).2 = l.any (fun q => decide (q.name = s))) := by
  have := each_names (fun p : Port => p.name) portErrS (fun p => if isW p.width = true then 0 else 2) (fun _ => false) (fun _ _ _ => rfl) l (portErrR l)
    (fun i x _ => by unfold portErrR; cases isW x.width <;> simp) l 0 [] rfl (fun s => rfl)
  simpa using this

theorem outs_same (n : Netl) : (eachL (outErrS n) 0 n.outs []).1 = eachP (outErrR n.nodes n.outs) 0 n.outs := by
  have := (each_names (fun p : Outp => p.name) (outErrS n) (fun p => if isNodeN n p.node = true then 0 else 9) (fun _ => false) (fun _ _ _ => rfl) n.outs (outErrR n.nodes n.outs)
    (fun i x _ => by unfold outErrR; rw [show isNodeN n x.node = isNodeL n.nodes x.node from rfl]; cases isNodeL n.nodes x.node <;> simp) n.outs 0 [] rfl (fun s => rfl)).1
  exact this

theorem regs_same (n : Netl) (ns : List ByteArray) (h : ∀ s, hasName s ns = n.inputs.any (fun q => decide (q.name = s))) : (eachL regErrS 0 n.regs ns).1 = eachP (regErrR n) 0 n.regs := by
  have := (each_names (fun p : Reg => p.name) regErrS (fun r => if (isW r.width && fitsN r.init r.width) = true then 0 else 2) (fun s => n.inputs.any (fun q => decide (q.name = s))) (fun _ _ _ => rfl) n.regs (regErrR n)
    (fun i x _ => by
      unfold regErrR
      cases (isW x.width && fitsN x.init x.width) <;> cases (n.regs.take i).any (fun q => decide (q.name = x.name)) <;> cases n.inputs.any (fun q => decide (q.name = x.name)) <;> simp) n.regs 0 ns rfl (fun s => by simp [h])).1
  exact this

theorem isW_all (n : Netl) (h1 : (eachP (portErrR n.inputs) 0 n.inputs).2 = 0) (h2 : (eachP (regErrR n) 0 n.regs).2 = 0) : (eachP (fun _ n => if isW n = true then (0 : Int) else 2) 0 (leavesN n)) = (0, 0) := by
  have key : ∀ {α : Type} (f : Nat → α → Int) (l : List α) (i : Nat), (eachP f i l).2 = 0 → ∀ j x, l[j]? = some x → f (i + j) x = 0 := by
    intro α f l
    induction l with
    | nil => intro i _ j x h; simp at h
    | cons y l ih =>
      intro i h j x hx
      simp only [eachP] at h
      split at h
      · rename_i h0; exact absurd h h0
      · rename_i h0
        cases j with
        | zero => simp at hx; subst hx; simpa using h0
        | succ j => have := ih (i + 1) h j x (by simpa using hx); rwa [show i + 1 + j = i + (j + 1) by omega] at this
  have key2 : ∀ (l : List Int) (i : Nat), (∀ w ∈ l, isW w = true) → eachP (fun _ n => if isW n = true then (0 : Int) else 2) i l = (0, 0) := by
    intro l
    induction l with
    | nil => intro i _; rfl
    | cons y l ih => intro i h; simp only [eachP, h y (by simp)]; simp; exact ih _ fun w hw => h w (by simp [hw])
  refine key2 _ _ fun w hw => ?_
  simp only [leavesN, List.mem_append, List.mem_map] at hw
  rcases hw with ⟨p, hp, rfl⟩ | ⟨r, hr, rfl⟩
  · obtain ⟨j, hj⟩ := List.getElem?_of_mem hp
    have := key _ _ _ h1 j p hj
    unfold portErrR at this
    cases hh : isW p.width with
    | true => rfl
    | false => rw [hh] at this; split at this <;> (try split at this) <;> simp_all
  · obtain ⟨j, hj⟩ := List.getElem?_of_mem hr
    have := key _ _ _ h2 j r hj
    unfold regErrR at this
    cases hh : isW r.width with
    | true => rfl
    | false => rw [hh] at this; split at this <;> (try split at this) <;> (try split at this) <;> simp_all

/-- P22.1: the program's answer is the reference's. -/
theorem checkNet_same (n : Netl) : checkNetS n = netErrR n := by
  unfold checkNetS netErrR
  obtain ⟨hp1, hp2⟩ := ports_same n.inputs
  have ho := outs_same n
  cases hN : isNameS n.name with
  | false => simp [firstP, firstL]
  | true =>
  simp only [firstP, firstL, hp1, ho, portsErrR]
  by_cases h12 : (n.inputs.length : Int) ≤ 12
  case neg => simp [h12, show 12 < n.inputs.length by omega]
  have h12' : ¬ 12 < n.inputs.length := by omega
  by_cases hP : (eachP (portErrR n.inputs) 0 n.inputs).2 = 0
  case neg => simp [h12, h12', hP]
  have hr := regs_same n _ (hp2 hP)
  by_cases h40 : (n.inputs.length : Int) + n.regs.length ≤ 40
  case neg => simp [h12, h12', hP, h40, show 40 < n.inputs.length + n.regs.length by omega]
  have h40' : ¬ 40 < n.inputs.length + n.regs.length := by omega
  by_cases hR : (eachP (regErrR n) 0 n.regs).2 = 0
  case neg => simp [h12, h12', hP, h40, h40', hr, hR]
  have hW := isW_all n hP hR
  have hC : checkNodesS (leavesN n) n.nodes = nodesErrR (leavesN n) n.nodes := by
    unfold checkNodesS nodesErrR
    rw [if_neg (by simp [leavesN]; omega), hW]
    simp
  by_cases hM : (nodesErrR (leavesN n) n.nodes).2 = 0
  case neg => simp [h12, h12', hP, h40, h40', hr, hR, hC, hM]
  by_cases hM2 : (eachP (regErr2S n) 0 n.regs).2 = 0
  case neg => simp [h12, h12', hP, h40, h40', hr, hR, hC, hM, hM2]
  by_cases h13 : (n.outs.length : Int) ≤ 12
  case neg => simp [h12, h12', hP, h40, h40', hr, hR, hC, hM, hM2, h13, outsErrR, show 12 < n.outs.length by omega]
  simp only [h12, h12', hP, h40, h40', hr, hR, hC, hM, hM2, h13, outsErrR, show ¬ 12 < n.outs.length by omega]
  by_cases hO : (eachP (outErrR n.nodes n.outs) 0 n.outs).2 = 0
  · simp [eachP_zero _ _ _ hO, hP]
  · simp [hP, hO]
end Go.E
